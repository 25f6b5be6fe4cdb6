import PyProof.Rows.All
import Wide.All
import OpenK.AllK
import Wide.FinOn
import HandS.ForMost
import HandS.Wide
import HandS.TupLe
import HandS.TupAny
import HandS.TupMul
import HandS.IsInst
import HandS.WideBits
import HandS.Style
import HandS.Zip
import PyProof.P3Eq
import PyProof.P3In
import PyProof.EqLayable
import HandS.Sort
import HandS.SortOrd
import HandS.SortRule
import HandS.SortInts
import HandS.Deep
import HandS.Star
import HandS.Conv
import HandS.NoneIn
import PySem.Challenge.RW_relywide_k50_one_way_nets_turned_round
set_option Elab.async false
set_option linter.all false
set_option maxRecDepth 100000
section
set_option maxRecDepth 100000
/-! MW, part a: data D, slot values W, the own store Sto, and how they stand to the layer's values and abstract heaps. -/
namespace MW
open PySem PySem.Spec L2

/-- plain data: never changes -/
inductive D where
  | non | bl (b : Bool) | int (i : Int) | str (x : Str) | tup (xs : List D) | lst (xs : List D)
/-- what a slot holds: data, the script, or the own store's n-th list -/
inductive W where
  | d (x : D) | scr (xs : List Int) | ref (n : Nat)
/-- an object of the own store: a list that may change; or a list that has been given away -/
inductive Ob where
  | dead | lst (xs : List D)
abbrev Sto := List Ob
abbrev Env := List (Option W)
abbrev ME := Env → Sto → Option (W × Sto)
abbrev MB := Env → Sto → Option (Bool × Sto)
abbrev MA := Env → Sto → Option (List W × Sto)
inductive Fl where
  | nx (e : Env) (S : Sto) | rt (w : W) (S : Sto) | bk (e : Env) (S : Sto) | ct (e : Env) (S : Sto)
abbrev MS := Env → Sto → Option Fl

section
/-- where the own store's lists stand, and which lists are another one's -/
structure Mp where
  l : List (Option Addr)
  N : Addr → Prop
/-- a list there is nobody's: it never changes -/
def Mp.out (m : Mp) (a : Addr) : Prop := some a ∉ m.l ∧ ¬ m.N a
variable (K : PySem.W.Frag) (H : Hp) (m : Mp)
/-- a list that nobody can change: frozen, or of the module -/
def Fz (K : PySem.W.Frag) (H : Hp) (a : Addr) (xs : List V) : Prop :=
  (∃ o, H a = some (.frz o (.lst xs))) ∨ ∃ (o : Obj) (its : Array Value) (n : Nat), K.lookup a = some o ∧ o.cls = .type "list" ∧ o.dict = none ∧ o.data = .seq its n ∧ its.size ≤ sizeLine ∧ Vals xs its.toList
mutual
def DR : D → V → Prop
  | .non, v => v = .non
  | .bl b, v => v = .bl b
  | .int i, v => v = .int i
  | .str x, v => v = .str x
  | .tup ws, v => ∃ a xs, v = .ref a ∧ SqT K H a xs ∧ DRs ws xs
  | .lst ws, v => ∃ a xs, v = .ref a ∧ H a = some (.lst xs) ∧ m.out a ∧ DRs ws xs
def DRs : List D → List V → Prop
  | [], vs => vs = []
  | w :: ws, vs => ∃ v vs', vs = v :: vs' ∧ DR w v ∧ DRs ws vs'
end
def WR : W → V → Prop
  | .d x, v => DR K H m x v
  | .scr ns, v => ∃ a, v = .ref a ∧ Fz K H a (ns.map V.int)
  | .ref n, v => n < m.l.length ∧ ∀ a, m.l[n]? = some (some a) → v = .ref a
def WRs : List W → List V → Prop
  | [], vs => vs = []
  | w :: ws, vs => ∃ v vs', vs = v :: vs' ∧ WR K H m w v ∧ WRs ws vs'
def ObR : Ob → Option Addr → Prop
  | .dead, o => o = none
  | .lst ws, o => ∃ a xs, o = some a ∧ H a = some (.lst xs) ∧ DRs K H m ws xs
structure Rel (S : Sto) : Prop where
  len : S.length = m.l.length
  nd : ∀ (i j : Nat) (a : Addr), m.l[i]? = some (some a) → m.l[j]? = some (some a) → i = j
  ob : ∀ (n : Nat) (o : Ob) (a : Option Addr), S[n]? = some o → m.l[n]? = some a → ObR K H m o a
  no : ∀ a, some a ∈ m.l → ¬ m.N a
  nl : ∀ a, m.N a → ∃ xs, H a = some (.lst xs)
structure ER (env : Env) (σ : St) : Prop where
  len : env.length = σ.length
  val : ∀ (i : Nat) (w : W), env[i]? = some (some w) → ∃ v, σ[i]? = some (some v) ∧ WR K H m w v
end
structure Gr (K : PySem.W.Frag) (H : Hp) (m : Mp) (H' : Hp) (m' : Mp) : Prop where
  tup : ∀ a xs, SqT K H a xs → SqT K H' a xs
  lst : ∀ a xs, H a = some (.lst xs) → m.out a → H' a = some (.lst xs) ∧ m'.out a
  fz : ∀ a xs, Fz K H a xs → Fz K H' a xs
  ln : m.l.length ≤ m'.l.length
  pre : ∀ (n : Nat) (a : Addr), n < m.l.length → m'.l[n]? = some (some a) → m.l[n]? = some (some a)
  sub : ∀ a, m.N a → m'.N a
  prot : ∀ a xs, H a = some (.lst xs) → m.N a → H' a = some (.lst xs)
section
variable {K : PySem.W.Frag} {H H1 H2 : Hp} {m m1 m2 : Mp} {S : Sto}
theorem Gr.refl : Gr K H m H m := ⟨fun _ _ h => h, fun _ _ h k => ⟨h, k⟩, fun _ _ h => h, Nat.le_refl _, fun _ _ _ h => h, fun _ h => h, fun _ _ h _ => h⟩
theorem Gr.trans (a : Gr K H m H1 m1) (b : Gr K H1 m1 H2 m2) : Gr K H m H2 m2 :=
  ⟨fun x xs h => b.tup x xs (a.tup x xs h), fun x xs h k => b.lst x xs (a.lst x xs h k).1 (a.lst x xs h k).2, fun x xs h => b.fz x xs (a.fz x xs h), Nat.le_trans a.ln b.ln,
    fun n x hn h => a.pre n x hn (b.pre n x (Nat.lt_of_lt_of_le hn a.ln) h), fun x h => b.sub x (a.sub x h), fun x xs h k => b.prot x xs (a.prot x xs h k) (a.sub x k)⟩
mutual
theorem DR.mv (ht : ∀ a xs, SqT K H a xs → SqT K H1 a xs) (hl : ∀ a xs, H a = some (.lst xs) → m.out a → H1 a = some (.lst xs) ∧ m1.out a) : ∀ {w : D} {v : V}, DR K H m w v → DR K H1 m1 w v
  | .non, _, h => h
  | .bl _, _, h => h
  | .int _, _, h => h
  | .str _, _, h => h
  | .tup ws, v, h => by
    unfold DR at h ⊢
    obtain ⟨a, xs, e, h1, h2⟩ := h
    exact ⟨a, xs, e, ht a xs h1, DRs.mv ht hl h2⟩
  | .lst ws, v, h => by
    unfold DR at h ⊢
    obtain ⟨a, xs, e, h1, h2, h3⟩ := h
    exact ⟨a, xs, e, (hl a xs h1 h2).1, (hl a xs h1 h2).2, DRs.mv ht hl h3⟩
theorem DRs.mv (ht : ∀ a xs, SqT K H a xs → SqT K H1 a xs) (hl : ∀ a xs, H a = some (.lst xs) → m.out a → H1 a = some (.lst xs) ∧ m1.out a) : ∀ {ws : List D} {vs : List V}, DRs K H m ws vs → DRs K H1 m1 ws vs
  | [], _, h => h
  | w :: ws, vs, h => by
    unfold DRs at h ⊢
    obtain ⟨v, vs', e, h1, h2⟩ := h
    exact ⟨v, vs', e, DR.mv ht hl h1, DRs.mv ht hl h2⟩
end
theorem DR.gr (g : Gr K H m H1 m1) {w : D} {v : V} (h : DR K H m w v) : DR K H1 m1 w v := DR.mv g.tup g.lst h
theorem DRs.gr (g : Gr K H m H1 m1) {ws : List D} {vs : List V} (h : DRs K H m ws vs) : DRs K H1 m1 ws vs := DRs.mv g.tup g.lst h
theorem WR.gr (g : Gr K H m H1 m1) : ∀ {w : W} {v : V}, WR K H m w v → WR K H1 m1 w v
  | .d x, _, h => DR.gr g h
  | .scr ns, v, h => by
    obtain ⟨a, e, h1⟩ := h
    exact ⟨a, e, g.fz a _ h1⟩
  | .ref n, v, h => ⟨Nat.lt_of_lt_of_le h.1 g.ln, fun a e => h.2 a (g.pre n a h.1 e)⟩
theorem WRs.gr (g : Gr K H m H1 m1) : ∀ {ws : List W} {vs : List V}, WRs K H m ws vs → WRs K H1 m1 ws vs
  | [], _, h => h
  | w :: ws, vs, h => by
    obtain ⟨v, vs', e, h1, h2⟩ := h
    exact ⟨v, vs', e, WR.gr g h1, WRs.gr g h2⟩
theorem ER.gr {env : Env} {σ : St} (g : Gr K H m H1 m1) (h : ER K H m env σ) : ER K H1 m1 env σ :=
  ⟨h.len, fun i w e => let ⟨v, e1, r⟩ := h.val i w e; ⟨v, e1, r.gr g⟩⟩
theorem ObR.gr (g : Gr K H m H1 m1) {o : Ob} {a : Option Addr} (h : ObR K H m o a) (k : ∀ b xs, a = some b → H b = some (.lst xs) → H1 b = some (.lst xs)) : ObR K H1 m1 o a := by
  cases o with
  | dead => exact h
  | lst ws =>
    obtain ⟨b, xs, e, h1, h2⟩ := h
    exact ⟨b, xs, e, k b xs e h1, DRs.gr g h2⟩
theorem DRs.length : ∀ {ws : List D} {vs : List V}, DRs K H m ws vs → vs.length = ws.length
  | [], _, h => by unfold DRs at h; subst h; rfl
  | w :: ws, vs, h => by
    unfold DRs at h
    obtain ⟨v, vs', rfl, _, h2⟩ := h
    simp [DRs.length h2]
theorem DRs.get : ∀ {ws : List D} {vs : List V} {i : Nat} {w : D}, DRs K H m ws vs → ws[i]? = some w → ∃ v, vs[i]? = some v ∧ DR K H m w v
  | [], _, _, _, _, e => by simp at e
  | w :: ws, vs, 0, x, h, e => by
    unfold DRs at h
    obtain ⟨v, vs', rfl, h1, h2⟩ := h
    simp at e; subst e
    exact ⟨v, rfl, h1⟩
  | w :: ws, vs, i + 1, x, h, e => by
    unfold DRs at h
    obtain ⟨v, vs', rfl, h1, h2⟩ := h
    obtain ⟨u, e1, r⟩ := DRs.get (i := i) h2 (by simpa using e)
    exact ⟨u, by simpa using e1, r⟩
theorem DRs.getV : ∀ {ws : List D} {vs : List V} {i : Nat} {v : V}, DRs K H m ws vs → vs[i]? = some v → ∃ w, ws[i]? = some w ∧ DR K H m w v
  | [], _, _, _, h, e => by unfold DRs at h; subst h; simp at e
  | w :: ws, vs, 0, x, h, e => by
    unfold DRs at h
    obtain ⟨v, vs', rfl, h1, h2⟩ := h
    simp at e; subst e
    exact ⟨w, rfl, h1⟩
  | w :: ws, vs, i + 1, x, h, e => by
    unfold DRs at h
    obtain ⟨v, vs', rfl, h1, h2⟩ := h
    obtain ⟨u, e1, r⟩ := DRs.getV (i := i) h2 (by simpa using e)
    exact ⟨u, by simpa using e1, r⟩
theorem DRs.append : ∀ {ws us : List D} {xs ys : List V}, DRs K H m ws xs → DRs K H m us ys → DRs K H m (ws ++ us) (xs ++ ys)
  | [], _, _, _, h, k => by unfold DRs at h; subst h; exact k
  | w :: ws, _, _, _, h, k => by
    unfold DRs at h
    obtain ⟨v, vs', rfl, h1, h2⟩ := h
    show DRs K H m (w :: (ws ++ _)) _
    unfold DRs
    exact ⟨v, _, rfl, h1, DRs.append h2 k⟩
theorem DRs.one {w : D} {v : V} (h : DR K H m w v) : DRs K H m [w] [v] := by
  unfold DRs
  exact ⟨v, [], rfl, h, rfl⟩
theorem DRs.cons {w : D} {v : V} {ws : List D} {vs : List V} (h : DR K H m w v) (k : DRs K H m ws vs) : DRs K H m (w :: ws) (v :: vs) := by
  unfold DRs
  exact ⟨v, vs, rfl, h, k⟩
theorem DRs.nil : DRs K H m [] [] := rfl
theorem DRs.take (n : Nat) : ∀ {ws : List D} {vs : List V}, DRs K H m ws vs → DRs K H m (ws.take n) (vs.take n) := by
  induction n with
  | zero => intro ws vs _; simp; exact DRs.nil
  | succ n ih =>
    intro ws vs h
    cases ws with
    | nil => unfold DRs at h; subst h; exact DRs.nil
    | cons w ws =>
      unfold DRs at h
      obtain ⟨v, vs', rfl, h1, h2⟩ := h
      exact DRs.cons h1 (ih h2)
theorem DRs.drop (n : Nat) : ∀ {ws : List D} {vs : List V}, DRs K H m ws vs → DRs K H m (ws.drop n) (vs.drop n) := by
  induction n with
  | zero => intro ws vs h; exact h
  | succ n ih =>
    intro ws vs h
    cases ws with
    | nil => unfold DRs at h; subst h; exact DRs.nil
    | cons w ws =>
      unfold DRs at h
      obtain ⟨v, vs', rfl, h1, h2⟩ := h
      exact ih h2
theorem DRs.set : ∀ {ws : List D} {vs : List V} {w : D} {v : V} (i : Nat), DRs K H m ws vs → DR K H m w v → DRs K H m (ws.set i w) (vs.set i v)
  | [], _, _, _, _, h, _ => by unfold DRs at h; subst h; exact DRs.nil
  | w :: ws, vs, x, u, 0, h, k => by
    unfold DRs at h
    obtain ⟨v, vs', rfl, h1, h2⟩ := h
    exact DRs.cons k h2
  | w :: ws, vs, x, u, i + 1, h, k => by
    unfold DRs at h
    obtain ⟨v, vs', rfl, h1, h2⟩ := h
    exact DRs.cons h1 (DRs.set i h2 k)
theorem DRs.erase : ∀ {ws : List D} {vs : List V} (i : Nat), DRs K H m ws vs → DRs K H m (ws.eraseIdx i) (vs.eraseIdx i)
  | [], _, _, h => by unfold DRs at h; subst h; exact DRs.nil
  | w :: ws, vs, 0, h => by
    unfold DRs at h
    obtain ⟨v, vs', rfl, h1, h2⟩ := h
    exact h2
  | w :: ws, vs, i + 1, h => by
    unfold DRs at h
    obtain ⟨v, vs', rfl, h1, h2⟩ := h
    exact DRs.cons h1 (DRs.erase i h2)
theorem DRs.ints {ns : List Int} : ∀ {vs : List V}, DRs K H m (ns.map D.int) vs ↔ vs = ns.map V.int := by
  induction ns with
  | nil => intro vs; exact Iff.rfl
  | cons n ns ih =>
    intro vs
    constructor
    · intro h
      simp only [List.map_cons] at h
      unfold DRs at h
      obtain ⟨v, vs', rfl, h1, h2⟩ := h
      unfold DR at h1
      subst h1
      rw [ih.mp h2]; rfl
    · rintro rfl
      exact DRs.cons (by unfold DR; rfl) (ih.mpr rfl)
theorem Rel.live (r : Rel K H m S) {n : Nat} {a : Addr} (h : m.l[n]? = some (some a)) : ∃ ws xs, S[n]? = some (.lst ws) ∧ H a = some (.lst xs) ∧ DRs K H m ws xs := by
  have hn : n < S.length := by rw [r.len]; exact (List.getElem?_eq_some_iff.mp h).1
  obtain ⟨o, ho⟩ : ∃ o, S[n]? = some o := ⟨S[n], by simp [hn]⟩
  have q := r.ob n o _ ho h
  cases o with
  | dead => cases q
  | lst ws =>
    obtain ⟨b, xs, e, h1, h2⟩ := q
    cases e
    exact ⟨ws, xs, ho, h1, h2⟩
theorem Rel.mem (r : Rel K H m S) {a : Addr} (h : some a ∈ m.l) : ∃ xs, H a = some (.lst xs) := by
  obtain ⟨n, hn, e⟩ := List.mem_iff_getElem.mp h
  obtain ⟨_, xs, _, q, _⟩ := r.live (n := n) (a := a) (by simp [hn, e])
  exact ⟨xs, q⟩
theorem Rel.free (r : Rel K H m S) {p : Addr} (h : H p = none) : m.out p := by
  refine ⟨fun q => ?_, fun q => ?_⟩
  · obtain ⟨xs, e⟩ := r.mem q
    rw [e] at h
    exact nomatch h
  · obtain ⟨xs, e⟩ := r.nl p q
    rw [e] at h
    exact nomatch h
theorem SqT.fresh {a p : Addr} {xs : List V} {o : HO} (h : SqT K H a xs) (hp : H p = none) : SqT K (upd H p o) a xs := by
  rcases h with (h | ⟨u, h⟩) | h
  · exact .inl (.inl (by rw [upd_ne (ne_of_none h hp)]; exact h))
  · exact .inl (.inr ⟨u, by rw [upd_ne (ne_of_none h hp)]; exact h⟩)
  · exact .inr h
theorem Fz.fresh {a p : Addr} {xs : List V} {o : HO} (h : Fz K H a xs) (hp : H p = none) : Fz K (upd H p o) a xs := by
  rcases h with ⟨u, h⟩ | h
  · exact .inl ⟨u, by rw [upd_ne (ne_of_none h hp)]; exact h⟩
  · exact .inr h
theorem Fz.sq {a : Addr} {xs : List V} (h : Fz K H a xs) : SqL K H a xs := by
  rcases h with ⟨u, h⟩ | h
  · exact .inl (.inr ⟨u, h⟩)
  · exact .inr h
/-- a new object that the own store doesn't track -/
theorem Gr.fresh {p : Addr} {o : HO} (hp : H p = none) : Gr K H m (upd H p o) m :=
  ⟨fun _ _ h => SqT.fresh h hp, fun a xs h k => ⟨by rw [upd_ne (ne_of_none h hp)]; exact h, k⟩, fun _ _ h => Fz.fresh h hp, Nat.le_refl _, fun _ _ _ h => h, fun _ h => h, fun a xs h _ => by rw [upd_ne (ne_of_none h hp)]; exact h⟩
theorem Rel.fresh {p : Addr} {o : HO} (r : Rel K H m S) (hp : H p = none) : Rel K (upd H p o) m S :=
  ⟨r.len, r.nd, fun n ob a h1 h2 => (r.ob n ob a h1 h2).gr (.fresh hp) fun b xs e h => by rw [upd_ne (ne_of_none h hp)]; exact h, r.no, fun a h => let ⟨xs, e⟩ := r.nl a h; ⟨xs, by rw [upd_ne (ne_of_none e hp)]; exact e⟩⟩
def Mp.add (m : Mp) (p : Addr) : Mp := ⟨m.l ++ [some p], m.N⟩
def Mp.kill (m : Mp) (n : Nat) : Mp := ⟨m.l.set n none, m.N⟩
def Mp.take (m : Mp) (n : Nat) : Mp := ⟨m.l.take n, m.N⟩
/-- a new list of the own store -/
theorem gr_alloc {p : Addr} {xs : List V} (r : Rel K H m S) (hp : H p = none) : Gr K H m (upd H p (.lst xs)) (m.add p) :=
  ⟨fun _ _ h => SqT.fresh h hp, fun a xs h k => ⟨by rw [upd_ne (ne_of_none h hp)]; exact h, by
    refine ⟨fun q => ?_, k.2⟩
    rcases List.mem_append.mp q with q | q
    · exact k.1 q
    · have : a = p := by simpa using q
      rw [this, hp] at h; cases h⟩, fun _ _ h => Fz.fresh h hp, by simp [Mp.add], fun n a hn h => by
      unfold Mp.add at h
      dsimp only at h
      rw [List.getElem?_append_left hn] at h; exact h, fun _ h => h, fun a xs h _ => by rw [upd_ne (ne_of_none h hp)]; exact h⟩
theorem Rel.alloc {p : Addr} {xs : List V} {ws : List D} (r : Rel K H m S) (hp : H p = none) (h : DRs K H m ws xs) : Rel K (upd H p (.lst xs)) (m.add p) (S ++ [.lst ws]) := by
  have g := gr_alloc (xs := xs) r hp
  refine ⟨by simp [r.len, Mp.add], fun i j a h1 h2 => ?_, fun n o a h1 h2 => ?_, fun a ha => ?_, fun a ha => let ⟨xs, e⟩ := r.nl a ha; ⟨xs, by rw [upd_ne (ne_of_none e hp)]; exact e⟩⟩
  · have key : ∀ i, (m.add p).l[i]? = some (some a) → m.l[i]? = some (some a) ∨ (i = m.l.length ∧ a = p) := fun i h => by
      unfold Mp.add at h
      dsimp only at h
      by_cases hi : i < m.l.length
      · rw [List.getElem?_append_left hi] at h; exact .inl h
      · rw [List.getElem?_append_right (by omega)] at h
        have hz : i - m.l.length = 0 := by
          have := (List.getElem?_eq_some_iff.mp h).1
          simp at this; omega
        rw [hz] at h
        simp at h
        exact .inr ⟨by omega, h.symm⟩
    rcases key i h1 with k1 | ⟨e1, z1⟩ <;> rcases key j h2 with k2 | ⟨e2, z2⟩
    · exact r.nd i j a k1 k2
    · subst z2
      exact absurd (List.mem_of_getElem? k1) (r.free hp).1
    · subst z1
      exact absurd (List.mem_of_getElem? k2) (r.free hp).1
    · omega
  · unfold Mp.add at h2
    dsimp only at h2
    by_cases hn : n < S.length
    · rw [List.getElem?_append_left hn] at h1
      rw [List.getElem?_append_left (by rw [← r.len]; exact hn)] at h2
      exact (r.ob n o a h1 h2).gr g fun b xs e h => by rw [upd_ne (ne_of_none h hp)]; exact h
    · rw [List.getElem?_append_right (by omega)] at h1
      rw [List.getElem?_append_right (by rw [← r.len]; omega)] at h2
      have hz : n - S.length = 0 := by
        have := (List.getElem?_eq_some_iff.mp h1).1
        simp at this; omega
      have hz2 : n - m.l.length = 0 := by rw [← r.len]; exact hz
      rw [hz] at h1
      rw [hz2] at h2
      simp at h1 h2
      subst h1 h2
      exact ⟨p, xs, rfl, upd_same, DRs.gr g h⟩
  · rcases List.mem_append.mp ha with q | q
    · exact r.no a q
    · have : a = p := by simpa using q
      rw [this]; exact (r.free hp).2
/-- a list of the own store is changed -/
theorem gr_write {n : Nat} {a : Addr} {xs xs' : List V} (r : Rel K H m S) (hn : m.l[n]? = some (some a)) (ha : H a = some (.lst xs)) : Gr K H m (upd H a (.lst xs')) m := by
  refine ⟨fun b ys h => ?_, fun b ys h k => ⟨?_, k⟩, fun b ys h => ?_, Nat.le_refl _, fun _ _ _ h => h, fun _ h => h, fun b ys h k => ?_⟩
  · rcases h with (h | ⟨u, h⟩) | h
    · exact .inl (.inl (by rw [upd_ne (ne_of h ha (by intro z; cases z))]; exact h))
    · exact .inl (.inr ⟨u, by rw [upd_ne (ne_of h ha (by intro z; cases z))]; exact h⟩)
    · exact .inr h
  · have : b ≠ a := by rintro rfl; exact k.1 (List.mem_of_getElem? hn)
    rw [upd_ne this]; exact h
  · rcases h with ⟨u, h⟩ | h
    · exact .inl ⟨u, by rw [upd_ne (ne_of h ha (by intro z; cases z))]; exact h⟩
    · exact .inr h
  · have : b ≠ a := by rintro rfl; exact r.no b (List.mem_of_getElem? hn) k
    rw [upd_ne this]; exact h
theorem Rel.write {n : Nat} {a : Addr} {xs xs' : List V} {ws' : List D} (r : Rel K H m S) (hn : m.l[n]? = some (some a)) (ha : H a = some (.lst xs)) (h : DRs K H m ws' xs') : Rel K (upd H a (.lst xs')) m (S.set n (.lst ws')) := by
  have g := gr_write (xs' := xs') r hn ha
  refine ⟨by simp [r.len], r.nd, fun i o b h1 h2 => ?_, r.no, fun b hb => ?_⟩
  · by_cases hi : i = n
    · subst hi
      have hl : i < S.length := by rw [r.len]; exact (List.getElem?_eq_some_iff.mp hn).1
      rw [List.getElem?_set_self hl] at h1
      rw [hn] at h2
      cases h1; cases h2
      exact ⟨a, xs', rfl, upd_same, DRs.gr g h⟩
    · rw [List.getElem?_set_ne (Ne.symm hi)] at h1
      refine (r.ob i o b h1 h2).gr g fun c ys e q => ?_
      subst e
      have : c ≠ a := by rintro rfl; exact hi (r.nd i n c h2 hn)
      rw [upd_ne this]; exact q
  · obtain ⟨ys, e⟩ := r.nl b hb
    exact ⟨ys, g.prot b ys e hb⟩
/-- a list of the own store is given away: nobody can change it any more -/
theorem gr_move {n : Nat} : Gr K H m H (m.kill n) := by
  refine ⟨fun _ _ h => h, fun b ys h k => ⟨h, fun q => ?_, k.2⟩, fun _ _ h => h, by simp [Mp.kill], fun i b hi h => ?_, fun _ h => h, fun _ _ h _ => h⟩
  · rcases List.mem_or_eq_of_mem_set q with q | q
    · exact k.1 q
    · cases q
  · unfold Mp.kill at h
    dsimp only at h
    by_cases e : n = i
    · subst e
      rw [List.getElem?_set_self hi] at h; cases h
    · rw [List.getElem?_set_ne e] at h; exact h
theorem Rel.move {n : Nat} (r : Rel K H m S) : Rel K H (m.kill n) (S.set n .dead) := by
  refine ⟨by simp [r.len, Mp.kill], fun i j a h1 h2 => ?_, fun i o b h1 h2 => ?_, fun a ha => ?_, r.nl⟩
  · have key : ∀ i, (m.kill n).l[i]? = some (some a) → m.l[i]? = some (some a) := fun i h => by
      unfold Mp.kill at h
      dsimp only at h
      by_cases e : n = i
      · subst e
        have hl : n < m.l.length := by have := (List.getElem?_eq_some_iff.mp h).1; simpa using this
        rw [List.getElem?_set_self hl] at h; cases h
      · rw [List.getElem?_set_ne e] at h; exact h
    exact r.nd i j a (key i h1) (key j h2)
  · unfold Mp.kill at h2
    dsimp only at h2
    by_cases e : n = i
    · subst e
      have hl : n < S.length := by have := (List.getElem?_eq_some_iff.mp h1).1; simpa using this
      rw [List.getElem?_set_self hl] at h1
      rw [List.getElem?_set_self (by rw [← r.len]; exact hl)] at h2
      cases h1; cases h2
      rfl
    · rw [List.getElem?_set_ne e] at h1 h2
      exact (r.ob i o b h1 h2).gr gr_move fun _ _ _ q => q
  · rcases List.mem_or_eq_of_mem_set ha with q | q
    · exact r.no a q
    · cases q
theorem moved {n : Nat} {a : Addr} {xs : List V} {ws : List D} (r : Rel K H m S) (hn : m.l[n]? = some (some a)) (ha : H a = some (.lst xs)) (h : DRs K H m ws xs) : DR K H (m.kill n) (.lst ws) (.ref a) := by
  unfold DR
  refine ⟨a, xs, rfl, ha, ⟨fun q => ?_, r.no a (List.mem_of_getElem? hn)⟩, DRs.gr gr_move h⟩
  obtain ⟨i, hi, e⟩ := List.mem_iff_getElem.mp q
  have e' : (m.l.set n none)[i]? = some (some a) := (List.getElem?_eq_getElem hi).trans (congrArg some e)
  by_cases c : n = i
  · subst c
    have hl : n < m.l.length := by simpa [Mp.kill] using hi
    rw [List.getElem?_set_self hl] at e'; cases e'
  · rw [List.getElem?_set_ne c] at e'
    exact c (r.nd n i a hn e')
mutual
theorem DR.fewer (hm : ∀ a, m.out a → m1.out a) : ∀ {w : D} {v : V}, DR K H m w v → DR K H m1 w v
  | .non, _, h => h
  | .bl _, _, h => h
  | .int _, _, h => h
  | .str _, _, h => h
  | .tup ws, v, h => by
    unfold DR at h ⊢
    obtain ⟨a, xs, e, h1, h2⟩ := h
    exact ⟨a, xs, e, h1, DRs.fewer hm h2⟩
  | .lst ws, v, h => by
    unfold DR at h ⊢
    obtain ⟨a, xs, e, h1, h2, h3⟩ := h
    exact ⟨a, xs, e, h1, hm _ h2, DRs.fewer hm h3⟩
theorem DRs.fewer (hm : ∀ a, m.out a → m1.out a) : ∀ {ws : List D} {vs : List V}, DRs K H m ws vs → DRs K H m1 ws vs
  | [], _, h => h
  | w :: ws, vs, h => by
    unfold DRs at h ⊢
    obtain ⟨v, vs', e, h1, h2⟩ := h
    exact ⟨v, vs', e, DR.fewer hm h1, DRs.fewer hm h2⟩
end
/-- fewer lists are known -/
theorem take_get {α : Type} {l : List α} {k n : Nat} {a : α} (h : (l.take k)[n]? = some a) : l[n]? = some a := by
  rw [List.getElem?_take] at h
  by_cases c : n < k
  · rw [if_pos c] at h; exact h
  · rw [if_neg c] at h; cases h
theorem out_take {k : Nat} {a : Addr} (h : m.out a) : (m.take k).out a := ⟨fun z => h.1 (List.mem_of_mem_take z), h.2⟩
theorem Rel.take {k : Nat} (r : Rel K H m S) : Rel K H (m.take k) (S.take k) := by
  refine ⟨by simp [r.len, Mp.take], fun i j a h1 h2 => r.nd i j a (take_get h1) (take_get h2), fun n o a h1 h2 => ?_, fun a ha => r.no a (List.mem_of_mem_take ha), r.nl⟩
  have q := r.ob n o a (take_get h1) (take_get h2)
  cases o with
  | dead => exact q
  | lst ws =>
    obtain ⟨b, xs, e, q1, q2⟩ := q
    exact ⟨b, xs, e, q1, DRs.fewer (fun c hc => out_take hc) q2⟩
theorem Gr.take {k : Nat} (g : Gr K H m H1 m1) (hk : k = m.l.length) : Gr K H m H1 (m1.take k) := by
  subst hk
  refine ⟨g.tup, fun a xs h q => ⟨(g.lst a xs h q).1, out_take (g.lst a xs h q).2⟩, g.fz, ?_, fun n a hn h => g.pre n a hn (take_get h), g.sub, g.prot⟩
  show _ ≤ (m1.l.take m.l.length).length
  rw [List.length_take, Nat.min_eq_left g.ln]
  exact Nat.le_refl _
/-- a list of the own store that is left behind by `take` -/
theorem left {n k : Nat} {a : Addr} {xs : List V} {ws : List D} (r : Rel K H m S) (hk : k ≤ n) (hn : m.l[n]? = some (some a)) (ha : H a = some (.lst xs)) (h : DRs K H m ws xs) : DR K H (m.take k) (.lst ws) (.ref a) := by
  unfold DR
  refine ⟨a, xs, rfl, ha, ⟨fun q => ?_, r.no a (List.mem_of_getElem? hn)⟩, DRs.fewer (fun _ hc => out_take hc) h⟩
  obtain ⟨i, hi, e⟩ := List.mem_iff_getElem.mp q
  have e' : (m.l.take k)[i]? = some (some a) := (List.getElem?_eq_getElem hi).trans (congrArg some e)
  have c := r.nd n i a hn (take_get e')
  subst c
  have : n < (m.l.take k).length := hi
  rw [List.length_take] at this
  omega
/-! ### a list that is being made: it is nobody's to change meanwhile -/
def Mp.guard (m : Mp) (p : Addr) : Mp := ⟨m.l, fun a => m.N a ∨ a = p⟩
theorem gr_guard {p : Addr} {xs : List V} (r : Rel K H m S) (hp : H p = none) : Gr K H m (upd H p (.lst xs)) (m.guard p) :=
  ⟨fun _ _ h => SqT.fresh h hp, fun a ys h k => ⟨by rw [upd_ne (ne_of_none h hp)]; exact h, k.1, fun z => z.elim k.2 (ne_of_none h hp)⟩, fun _ _ h => Fz.fresh h hp, Nat.le_refl _, fun _ _ _ h => h, fun _ h => .inl h,
    fun a ys h _ => by rw [upd_ne (ne_of_none h hp)]; exact h⟩
theorem Rel.guard {p : Addr} {xs : List V} (r : Rel K H m S) (hp : H p = none) : Rel K (upd H p (.lst xs)) (m.guard p) S := by
  have g := gr_guard (xs := xs) r hp
  refine ⟨r.len, r.nd, fun n o a h1 h2 => (r.ob n o a h1 h2).gr g fun b ys e h => by rw [upd_ne (ne_of_none h hp)]; exact h, fun a h z => ?_, fun a h => ?_⟩
  · rcases z with z | z
    · exact r.no a h z
    · subst z
      exact (r.free hp).1 h
  · rcases h with h | h
    · obtain ⟨ys, e⟩ := r.nl a h
      exact ⟨ys, by rw [upd_ne (ne_of_none e hp)]; exact e⟩
    · subst h
      exact ⟨xs, upd_same⟩
theorem SqT.written {p : Addr} {us us' : List V} (hp : H p = some (.lst us)) {a : Addr} {xs : List V} (h : SqT K H a xs) : SqT K (upd H p (.lst us')) a xs := by
  rcases h with (h | ⟨u, h⟩) | h
  · exact .inl (.inl (by rw [upd_ne (ne_of h hp (by intro z; cases z))]; exact h))
  · exact .inl (.inr ⟨u, by rw [upd_ne (ne_of h hp (by intro z; cases z))]; exact h⟩)
  · exact .inr h
theorem Fz.written {p : Addr} {us us' : List V} (hp : H p = some (.lst us)) {a : Addr} {xs : List V} (h : Fz K H a xs) : Fz K (upd H p (.lst us')) a xs := by
  rcases h with ⟨u, h⟩ | h
  · exact .inl ⟨u, by rw [upd_ne (ne_of h hp (by intro z; cases z))]; exact h⟩
  · exact .inr h
/-- .. it is written -/
theorem lst_guarded {p : Addr} {us : List V} (hN : m.N p) (a : Addr) (xs : List V) (h : H a = some (.lst xs)) (k : m.out a) : upd H p (.lst us) a = some (.lst xs) ∧ m.out a := by
  have : a ≠ p := by rintro rfl; exact k.2 hN
  exact ⟨by rw [upd_ne this]; exact h, k⟩
theorem DRs.guarded {p : Addr} {us us' : List V} (hN : m.N p) (hp : H p = some (.lst us)) {ws : List D} {vs : List V} (h : DRs K H m ws vs) : DRs K (upd H p (.lst us')) m ws vs := DRs.mv (fun _ _ z => SqT.written hp z) (fun a xs z k => lst_guarded hN a xs z k) h
theorem Rel.guarded {p : Addr} {us us' : List V} (r : Rel K H m S) (hN : m.N p) (hp : H p = some (.lst us)) : Rel K (upd H p (.lst us')) m S := by
  refine ⟨r.len, r.nd, fun n o a h1 h2 => ?_, r.no, fun a h => ?_⟩
  · have q := r.ob n o a h1 h2
    cases o with
    | dead => exact q
    | lst ws =>
      obtain ⟨b, xs, rfl, q1, q2⟩ := q
      have : b ≠ p := by rintro rfl; exact r.no b (List.mem_of_getElem? h2) hN
      exact ⟨b, xs, rfl, by rw [upd_ne this]; exact q1, DRs.guarded hN hp q2⟩
  · by_cases c : a = p
    · subst c; exact ⟨us', upd_same⟩
    · obtain ⟨ys, e⟩ := r.nl a h
      exact ⟨ys, by rw [upd_ne c]; exact e⟩
theorem Gr.guarded {p : Addr} {us us' : List V} {H0 : Hp} {m0 : Mp} (g : Gr K H0 m0 H m) (h0 : H0 p = none) (hp : H p = some (.lst us)) : Gr K H0 m0 (upd H p (.lst us')) m :=
  ⟨fun a xs h => SqT.written hp (g.tup a xs h), fun a xs h k => ⟨by rw [upd_ne (ne_of_none h h0)]; exact (g.lst a xs h k).1, (g.lst a xs h k).2⟩, fun a xs h => Fz.written hp (g.fz a xs h), g.ln, g.pre, g.sub,
    fun a xs h k => by rw [upd_ne (ne_of_none h h0)]; exact g.prot a xs h k⟩
/-- .. it is made: N0 are the lists that were another one's before -/
theorem out_un {N0 : Addr → Prop} (hs : ∀ a, N0 a → m.N a) {a : Addr} (h : m.out a) : Mp.out ⟨m.l, N0⟩ a := ⟨h.1, fun z => h.2 (hs a z)⟩
theorem Rel.un {N0 : Addr → Prop} (r : Rel K H m S) (hs : ∀ a, N0 a → m.N a) : Rel K H ⟨m.l, N0⟩ S := by
  refine ⟨r.len, r.nd, fun n o a h1 h2 => ?_, fun a h z => r.no a h (hs a z), fun a h => r.nl a (hs a h)⟩
  have q := r.ob n o a h1 h2
  cases o with
  | dead => exact q
  | lst ws =>
    obtain ⟨b, xs, e, q1, q2⟩ := q
    exact ⟨b, xs, e, q1, DRs.fewer (fun _ z => out_un hs z) q2⟩
theorem Gr.un {H0 : Hp} {m0 : Mp} (g : Gr K H0 m0 H m) : Gr K H0 m0 H ⟨m.l, m0.N⟩ :=
  ⟨g.tup, fun a xs h k => ⟨(g.lst a xs h k).1, (g.lst a xs h k).2.1, k.2⟩, g.fz, g.ln, g.pre, fun _ h => h, g.prot⟩
theorem Gr.unAdd {H0 : Hp} {m0 : Mp} {p : Addr} (g : Gr K H0 m0 H m) (h0 : H0 p = none) : Gr K H0 m0 H ⟨m.l ++ [some p], m0.N⟩ :=
  ⟨g.tup, fun a xs h k => ⟨(g.lst a xs h k).1, fun z => by
    rcases List.mem_append.mp z with z | z
    · exact (g.lst a xs h k).2.1 z
    · have : a = p := by simpa using z
      exact ne_of_none h h0 this, k.2⟩, g.fz, by
      show m0.l.length ≤ (m.l ++ [some p]).length
      have := g.ln
      simp; omega, fun n a hn h => g.pre n a hn (by
        have : (m.l ++ [some p])[n]? = some (some a) := h
        rwa [List.getElem?_append_left (Nat.lt_of_lt_of_le hn g.ln)] at this), fun _ h => h, g.prot⟩
theorem Rel.unAdd {N0 : Addr → Prop} {p : Addr} {us : List V} {ws : List D} (r : Rel K H m S) (hs : ∀ a, N0 a → m.N a) (hN : m.N p) (h0 : ¬ N0 p) (hp : H p = some (.lst us)) (hw : DRs K H m ws us) : Rel K H ⟨m.l ++ [some p], N0⟩ (S ++ [.lst ws]) := by
  have hout : ∀ a, m.out a → Mp.out ⟨m.l ++ [some p], N0⟩ a := fun a h => ⟨fun z => by
    rcases List.mem_append.mp z with z | z
    · exact h.1 z
    · have : a = p := by simpa using z
      exact h.2 (by rw [this]; exact hN), fun z => h.2 (hs a z)⟩
  have np : some p ∉ m.l := fun z => r.no p z hN
  refine ⟨by simp [r.len], fun i j a h1 h2 => ?_, fun n o a h1 h2 => ?_, fun a h z => ?_, fun a h => r.nl a (hs a h)⟩
  · have key : ∀ i, (m.l ++ [some p])[i]? = some (some a) → m.l[i]? = some (some a) ∨ (i = m.l.length ∧ a = p) := fun i h => by
      by_cases hi : i < m.l.length
      · rw [List.getElem?_append_left hi] at h; exact .inl h
      · rw [List.getElem?_append_right (by omega)] at h
        have hz : i - m.l.length = 0 := by
          have := (List.getElem?_eq_some_iff.mp h).1
          simp at this; omega
        rw [hz] at h
        simp at h
        exact .inr ⟨by omega, h.symm⟩
    rcases key i h1 with k1 | ⟨e1, z1⟩ <;> rcases key j h2 with k2 | ⟨e2, z2⟩
    · exact r.nd i j a k1 k2
    · subst z2
      exact absurd (List.mem_of_getElem? k1) np
    · subst z1
      exact absurd (List.mem_of_getElem? k2) np
    · omega
  · by_cases hn : n < S.length
    · rw [List.getElem?_append_left hn] at h1
      have h2 : (m.l ++ [some p])[n]? = some a := h2
      rw [List.getElem?_append_left (by rw [← r.len]; exact hn)] at h2
      have q := r.ob n o a h1 h2
      cases o with
      | dead => exact q
      | lst ws =>
        obtain ⟨b, xs, e, q1, q2⟩ := q
        exact ⟨b, xs, e, q1, DRs.fewer hout q2⟩
    · rw [List.getElem?_append_right (by omega)] at h1
      have h2 : (m.l ++ [some p])[n]? = some a := h2
      rw [List.getElem?_append_right (by rw [← r.len]; omega)] at h2
      have hz : n - S.length = 0 := by
        have := (List.getElem?_eq_some_iff.mp h1).1
        simp at this; omega
      have hz2 : n - m.l.length = 0 := by rw [← r.len]; exact hz
      rw [hz] at h1
      rw [hz2] at h2
      simp at h1 h2
      subst h1 h2
      exact ⟨p, us, rfl, hp, DRs.fewer hout hw⟩
  · rcases List.mem_append.mp h with q | q
    · exact r.no a q (hs a z)
    · have : a = p := by simpa using q
      subst this
      exact h0 z
end
end MW
end
section
set_option maxRecDepth 100000
/-! MW, part b: the readings by the own machine, and the rules for expressions. -/
namespace MW
open PySem PySem.Spec L2

/-! ### readings -/
def tM (K : PySem.W.Frag) (f : ME) : TE := fun σ H Q => ∃ env S m w S', ER K H m env σ ∧ Rel K H m S ∧ f env S = some (w, S') ∧ ∀ H' m' v, Rel K H' m' S' → Gr K H m H' m' → WR K H' m' w v → Q v H'
def tMB (K : PySem.W.Frag) (f : MB) : TT := fun σ H Q => ∃ env S m w S', ER K H m env σ ∧ Rel K H m S ∧ f env S = some (w, S') ∧ ∀ H' m', Rel K H' m' S' → Gr K H m H' m' → Q w H'
def tMA (K : PySem.W.Frag) (f : MA) : TA := fun σ H Q => ∃ env S m w S', ER K H m env σ ∧ Rel K H m S ∧ f env S = some (w, S') ∧ ∀ H' m' v, Rel K H' m' S' → Gr K H m H' m' → WRs K H' m' w v → Q v H'
def FlP (K : PySem.W.Frag) (H : Hp) (m : Mp) (D : Ends) : Fl → Prop
  | .nx e S => ∀ σ' H' m', ER K H' m' e σ' → Rel K H' m' S → Gr K H m H' m' → D.nx σ' H'
  | .rt w S => ∀ H' m' v, Rel K H' m' S → Gr K H m H' m' → WR K H' m' w v → D.rt v H'
  | .bk e S => ∀ σ' H' m', ER K H' m' e σ' → Rel K H' m' S → Gr K H m H' m' → D.bk σ' H'
  | .ct e S => ∀ σ' H' m', ER K H' m' e σ' → Rel K H' m' S → Gr K H m H' m' → D.ct σ' H'
def tMS (K : PySem.W.Frag) (f : MS) : TS := fun D σ H => ∃ env S m r, ER K H m env σ ∧ Rel K H m S ∧ f env S = some r ∧ FlP K H m D r

section
variable {X : Cx} {e : Expr}
theorem PE.imp {t t' : TE} (h : PE X e t) (k : ∀ σ H Q, t' σ H Q → t σ H Q) : PE X e t' := ⟨fun pins s σ H Q I q => h.run pins s σ H Q I (k σ H Q q)⟩
theorem PT.imp {t t' : TT} (h : PT X e t) (k : ∀ σ H Q, t' σ H Q → t σ H Q) : PT X e t' := ⟨fun pins s σ H Q I q => h.run pins s σ H Q I (k σ H Q q)⟩
theorem PW.imp {t t' : TT} (h : PW X e t) (k : ∀ σ H Q, t' σ H Q → t σ H Q) : PW X e t' := ⟨fun wh pins s σ H Q I q => h.run wh pins s σ H Q I (k σ H Q q)⟩
theorem PA.imp {es : List Expr} {t t' : TA} (h : PA X es t) (k : ∀ σ H Q, t' σ H Q → t σ H Q) : PA X es t' := ⟨fun pos pins s σ H Q I q => h.run pos pins s σ H Q I (k σ H Q q)⟩
theorem PS.imp {st : Stmt} {t t' : TS} (h : PS X st t) (k : ∀ D σ H, t' D σ H → t D σ H) : PS X st t' := ⟨fun pins s σ H D I q => h.run pins s σ H D I (k D σ H q)⟩
theorem PSs.imp {st : List Stmt} {t t' : TS} (h : PSs X st t) (k : ∀ D σ H, t' D σ H → t D σ H) : PSs X st t' := ⟨fun pins s σ H D I q => h.run pins s σ H D I (k D σ H q)⟩
end

/-! ### names and constants -/
def mVar (i : Nat) : ME := fun env S => match env[i]? with
  | some (some w) => some (w, S)
  | _ => none
def mC (x : D) : ME := fun _ S => some (.d x, S)
section
variable {X : Cx}
theorem me_var {e : Expr} {i : Nat} (h : PE X e (tVar i)) : PE X e (tM X.K (mVar i)) := PE.imp h fun σ H Q ⟨env, S, m, w, S', er, rl, he, k⟩ => by
  unfold mVar at he
  split at he
  · rename_i w0 e0
    cases he
    obtain ⟨v, e1, r⟩ := er.val i _ e0
    exact ⟨v, e1, k H m v rl .refl r⟩
  · cases he
theorem me_c {e : Expr} {x : D} {v : V} (h : PE X e (tC v)) (r : ∀ H m, DR X.K H m x v) : PE X e (tM X.K (mC x)) := PE.imp h fun σ H Q ⟨env, S, m, w, S', er, rl, he, k⟩ => by
  cases he
  exact k H m v rl .refl (r H m)
theorem me_int {i j pos} : PE X (.Constant (.int i) j pos) (tM X.K (mC (.int i))) := me_c pe_int fun _ _ => by unfold DR; rfl
theorem me_bl {b j pos} : PE X (.Constant (.bool b) j pos) (tM X.K (mC (.bl b))) := me_c pe_bl fun _ _ => by unfold DR; rfl
theorem me_non {j pos} : PE X (.Constant .none j pos) (tM X.K (mC .non)) := me_c pe_non fun _ _ => by unfold DR; rfl
theorem me_str {x j pos} : PE X (.Constant (.str x) j pos) (tM X.K (mC (.str x))) := me_c pe_str fun _ _ => by unfold DR; rfl
end

/-! ### sequencing -/
def mBin (g : W → W → Sto → Option (W × Sto)) (fa fb : ME) : ME := fun env S => (fa env S).bind fun p => (fb env p.2).bind fun q => g p.1 q.1 q.2
def mUn (g : W → Sto → Option (W × Sto)) (fa : ME) : ME := fun env S => (fa env S).bind fun p => g p.1 p.2
theorem bind_some {α β : Type} {a : Option α} {f : α → Option β} {b : β} (h : a.bind f = some b) : ∃ x, a = some x ∧ f x = some b := by
  cases a with
  | none => cases h
  | some x => exact ⟨x, rfl, h⟩
/-- the reading of two expressions, from the left -/
theorem t2 {K : PySem.W.Frag} {fa fb : ME} {g : W → W → Sto → Option (W × Sto)} {σ : St} {H : Hp} {R : V → V → Hp → Prop} {env : Env} {S : Sto} {m : Mp} {r : W × Sto}
    (er : ER K H m env σ) (rl : Rel K H m S) (he : mBin g fa fb env S = some r)
    (k : ∀ w z S2 H2 m2 x y, Rel K H2 m2 S2 → Gr K H m H2 m2 → WR K H2 m2 w x → WR K H2 m2 z y → g w z S2 = some r → R x y H2) :
    tM K fa σ H fun x H1 => tM K fb σ H1 fun y H2 => R x y H2 := by
  unfold mBin at he
  obtain ⟨⟨w, S1⟩, h1, he⟩ := bind_some he
  obtain ⟨⟨z, S2⟩, h2, he⟩ := bind_some he
  refine ⟨env, S, m, w, S1, er, rl, h1, fun H1 m1 x rl1 g1 r1 => ⟨env, S1, m1, z, S2, er.gr g1, rl1, h2, fun H2 m2 y rl2 g2 r2 => ?_⟩⟩
  exact k w z S2 H2 m2 x y rl2 (g1.trans g2) (r1.gr g2) r2 he
/-- an operator by the own machine -/
def OpM (X : Cx) (f : Value → Value → Sem Value) (g : W → W → Sto → Option (W × Sto)) : Prop :=
  ∃ r : R2, OpR X f r ∧ ∀ (H : Hp) (S : Sto) (m : Mp) (x y : W) (v u : V) (w : W) (S' : Sto) (Q : VK), Rel X.K H m S → WR X.K H m x v → WR X.K H m y u → g x y S = some (w, S') →
    (∀ H' m' z, Rel X.K H' m' S' → Gr X.K H m H' m' → WR X.K H' m' w z → Q z H') → r v u H Q
theorem OpR.or {X : Cx} {f : Value → Value → Sem Value} {r r' : R2} (h : OpR X f r) (h' : OpR X f r') : OpR X f (fun x y H Q => r x y H Q ∨ r' x y H Q) := by
  intro pins s σ H x y v u Q I rx ry q
  rcases q with q | q
  · exact h pins s σ H x y v u Q I rx ry q
  · exact h' pins s σ H x y v u Q I rx ry q
/-- one operator after another is asked -/
def gOr (g g' : W → W → Sto → Option (W × Sto)) : W → W → Sto → Option (W × Sto) := fun x y S => match g x y S with
  | some r => some r
  | none => g' x y S
theorem OpM.or {X : Cx} {f : Value → Value → Sem Value} {g g' : W → W → Sto → Option (W × Sto)} (h : OpM X f g) (h' : OpM X f g') : OpM X f (gOr g g') := by
  obtain ⟨r, o, q⟩ := h
  obtain ⟨r', o', q'⟩ := h'
  refine ⟨_, OpR.or o o', fun H S m x y v u w S' Q rl rx ry e k => ?_⟩
  unfold gOr at e
  split at e
  · rename_i p e0
    cases e
    exact .inl (q H S m x y v u w S' Q rl rx ry e0 k)
  · exact .inr (q' H S m x y v u w S' Q rl rx ry e k)
/-- .. where both clauses give the same, the second one first told -/
theorem OpM.of {X : Cx} {f : Value → Value → Sem Value} {g g' : W → W → Sto → Option (W × Sto)} (h : OpM X f g) (e : ∀ x y S r, g' x y S = some r → g x y S = some r) : OpM X f g' := by
  obtain ⟨r, o, q⟩ := h
  exact ⟨r, o, fun H S m x y v u w S' Q rl rx ry e' k => q H S m x y v u w S' Q rl rx ry (e _ _ _ _ e') k⟩
section
variable {X : Cx} {a b c : Expr} {fa fb fc : ME} {pos : Pos} {g g' : W → W → Sto → Option (W × Sto)}
theorem me_bin {op : Operator} (ho : OpM X (binaryOp op) g) (ha : PE X a (tM X.K fa)) (hb : PE X b (tM X.K fb)) : PE X (.BinOp a op b pos) (tM X.K (mBin g fa fb)) := by
  obtain ⟨r, o, q⟩ := ho
  refine PE.imp (pe_op o ha hb) fun σ H Q ⟨env, S, m, w, S', er, rl, he, k⟩ => ?_
  refine t2 er rl he fun w1 z1 S2 H2 m2 x y rl2 g2 r1 r2 e => ?_
  exact q H2 S2 m2 w1 z1 x y w S' Q rl2 r1 r2 e fun H' m' z rl' g' => k H' m' z rl' (g2.trans g')
theorem me_cmp {op : CmpOp} (ho : OpM X (compareOp op) g) (ha : PE X a (tM X.K fa)) (hb : PE X b (tM X.K fb)) (hm : behindInMarks op b = false) : PE X (.Compare a [op] [b] pos) (tM X.K (mBin g fa fb)) := by
  obtain ⟨r, o, q⟩ := ho
  refine PE.imp (pe_cmpR o ha hb hm) fun σ H Q ⟨env, S, m, w, S', er, rl, he, k⟩ => ?_
  refine t2 er rl he fun w1 z1 S2 H2 m2 x y rl2 g2 r1 r2 e => ?_
  exact q H2 S2 m2 w1 z1 x y w S' Q rl2 r1 r2 e fun H' m' z rl' g' => k H' m' z rl' (g2.trans g')
/-- the answer of a test -/
def mTest (f : ME) : MB := fun env S => (f env S).bind fun p => match p.1 with
  | .d (.bl b) => some (b, p.2)
  | _ => none
theorem tTest_of {K : PySem.W.Frag} {f : ME} {σ : St} {H : Hp} {Q : Bool → Hp → Prop} (h : tMB K (mTest f) σ H Q) : tM K f σ H fun x H' => ∃ k, x = .bl k ∧ Q k H' := by
  obtain ⟨env, S, m, w, S', er, rl, he, k⟩ := h
  unfold mTest at he
  obtain ⟨⟨z, S1⟩, h1, he⟩ := bind_some he
  split at he
  · rename_i b0 e0
    cases he
    refine ⟨env, S, m, _, _, er, rl, h1, fun H' m' v rl' g' r => ?_⟩
    have e0 : z = .d (.bl w) := e0
    subst e0
    unfold WR DR at r
    exact ⟨_, r, k H' m' rl' g'⟩
  · cases he
theorem mt_cmp {op : CmpOp} (ho : OpM X (compareOp op) g) (ha : PE X a (tM X.K fa)) (hb : PE X b (tM X.K fb)) (hm : behindInMarks op b = false) : PT X (.Compare a [op] [b] pos) (tMB X.K (mTest (mBin g fa fb))) := by
  obtain ⟨r, o, q⟩ := ho
  refine PT.imp (pt_cmpR o ha hb hm) fun σ H Q h => ?_
  obtain ⟨env, S, m, w, S', er, rl, he, k⟩ := tTest_of h
  show tM X.K fa σ H _
  refine t2 er rl he fun w1 z1 S2 H2 m2 x y rl2 g2 r1 r2 e => ?_
  exact q H2 S2 m2 w1 z1 x y w S' _ rl2 r1 r2 e fun H' m' z rl' g' r' => k H' m' z rl' (g2.trans g') r'
theorem mt_val {f : ME} (h : PE X a (tM X.K f)) (he : ∀ whole, isTrue a X.env whole = (do let v ← whole; standAt a.pos; holding [v] (truthy v)) := by intro _; rfl) : PT X a (tMB X.K (mTest f)) :=
  PT.imp (pt_val h he) fun σ H Q h => tTest_of h
/-- a chain of two comparisons -/
def mChain (g g' : W → W → Sto → Option (W × Sto)) (fa fb fc : ME) : ME := fun env S => (fa env S).bind fun p => (fb env p.2).bind fun q => (g p.1 q.1 q.2).bind fun r => match r.1 with
  | .d (.bl true) => (fc env r.2).bind fun t => g' q.1 t.1 t.2
  | .d (.bl false) => some (.d (.bl false), r.2)
  | _ => none
theorem chain_of {r r' : R2} {σ : St} {H : Hp} {Q : VK} (q : ∀ (H : Hp) (S : Sto) (m : Mp) (x y : W) (v u : V) (w : W) (S' : Sto) (Q : VK), Rel X.K H m S → WR X.K H m x v → WR X.K H m y u → g x y S = some (w, S') →
    (∀ H' m' z, Rel X.K H' m' S' → Gr X.K H m H' m' → WR X.K H' m' w z → Q z H') → r v u H Q)
    (q' : ∀ (H : Hp) (S : Sto) (m : Mp) (x y : W) (v u : V) (w : W) (S' : Sto) (Q : VK), Rel X.K H m S → WR X.K H m x v → WR X.K H m y u → g' x y S = some (w, S') →
    (∀ H' m' z, Rel X.K H' m' S' → Gr X.K H m H' m' → WR X.K H' m' w z → Q z H') → r' v u H Q) (h : tM X.K (mChain g g' fa fb fc) σ H Q) : tChain r r' (tM X.K fa) (tM X.K fb) (tM X.K fc) σ H Q := by
  obtain ⟨env, S, m, w, S', er, rl, he, k⟩ := h
  unfold mChain at he
  obtain ⟨⟨w1, S1⟩, h1, he⟩ := bind_some he
  obtain ⟨⟨w2, S2⟩, h2, he⟩ := bind_some he
  obtain ⟨⟨w3, S3⟩, h3, he⟩ := bind_some he
  refine ⟨env, S, m, w1, S1, er, rl, h1, fun H1 m1 x rl1 g1 r1 => ⟨env, S1, m1, w2, S2, er.gr g1, rl1, h2, fun H2 m2 y rl2 g2 r2 => ?_⟩⟩
  refine q H2 S2 m2 w1 w2 x y w3 S3 _ rl2 (r1.gr g2) r2 h3 fun H3 m3 z rl3 g3 r3 => ?_
  have g13 := (g1.trans g2).trans g3
  split at he
  · rename_i e0
    have e0 : w3 = .d (.bl true) := e0
    subst e0
    obtain ⟨⟨w4, S4⟩, h4, he⟩ := bind_some he
    unfold WR DR at r3
    refine ⟨true, r3, ?_⟩
    rw [if_pos rfl]
    refine ⟨env, S3, m3, w4, S4, er.gr g13, rl3, h4, fun H4 m4 t rl4 g4 r4 => ?_⟩
    exact q' H4 S4 m4 w2 w4 y t w S' Q rl4 ((r2.gr g3).gr g4) r4 he fun H' m' z' rl' g' r' => k H' m' z' rl' ((g13.trans g4).trans g') r'
  · rename_i e0
    have e0 : w3 = .d (.bl false) := e0
    subst e0
    cases he
    unfold WR DR at r3
    refine ⟨false, r3, ?_⟩
    rw [if_neg (by decide)]
    exact k H3 m3 (.bl false) rl3 g13 (by unfold WR DR; rfl)
  · cases he
theorem me_chain {op op' : CmpOp} (ho : OpM X (compareOp op) g) (ho' : OpM X (compareOp op') g') (ha : PE X a (tM X.K fa)) (hb : PE X b (tM X.K fb)) (hc : PE X c (tM X.K fc))
    (hm : lastMarks [op, op'] [b, c] = false := by with_unfolding_all rfl) : PE X (.Compare a [op, op'] [b, c] pos) (tM X.K (mChain g g' fa fb fc)) := by
  obtain ⟨r, o, q⟩ := ho
  obtain ⟨r', o', q'⟩ := ho'
  exact PE.imp (pe_chain o o' ha hb hc hm) fun σ H Q h => chain_of q q' h
theorem mt_chain {op op' : CmpOp} (ho : OpM X (compareOp op) g) (ho' : OpM X (compareOp op') g') (ha : PE X a (tM X.K fa)) (hb : PE X b (tM X.K fb)) (hc : PE X c (tM X.K fc))
    (hm : lastMarks [op, op'] [b, c] = false := by with_unfolding_all rfl) : PT X (.Compare a [op, op'] [b, c] pos) (tMB X.K (mTest (mChain g g' fa fb fc))) := by
  obtain ⟨r, o, q⟩ := ho
  obtain ⟨r', o', q'⟩ := ho'
  refine PT.imp (pt_chain o o' ha hb hc hm) fun σ H Q h => ?_
  exact chain_of q q' (tTest_of h)

/-! ### and, or, not, if -/
def mAnd (f g : MB) : MB := fun env S => (f env S).bind fun p => if p.1 then g env p.2 else some (false, p.2)
def mOr (f g : MB) : MB := fun env S => (f env S).bind fun p => if p.1 then some (true, p.2) else g env p.2
def mNot (f : MB) : MB := fun env S => (f env S).bind fun p => some (!p.1, p.2)
def mB (f : MB) : ME := fun env S => (f env S).bind fun p => some (.d (.bl p.1), p.2)
def mIf (t : MB) (f g : ME) : ME := fun env S => (t env S).bind fun p => if p.1 then f env p.2 else g env p.2
variable {ta tb : MB} {rest : List Expr}
theorem mw_and1 (h : PT X a (tMB X.K ta)) : PW X (.BoolOp .And [a] pos) (tMB X.K ta) := pw_and1 h
theorem mw_or1 (h : PT X a (tMB X.K ta)) : PW X (.BoolOp .Or [a] pos) (tMB X.K ta) := pw_or1 h
theorem mw_and (ha : PT X a (tMB X.K ta)) (hb : PW X (.BoolOp .And (b :: rest) pos) (tMB X.K tb)) : PW X (.BoolOp .And (a :: b :: rest) pos) (tMB X.K (mAnd ta tb)) :=
  PW.imp (pw_and ha hb) fun σ H Q ⟨env, S, m, w, S', er, rl, he, k⟩ => by
    unfold mAnd at he
    obtain ⟨⟨p, S1⟩, h1, he⟩ := bind_some he
    refine ⟨env, S, m, p, S1, er, rl, h1, fun H1 m1 rl1 g1 => ?_⟩
    cases p with
    | true => exact ⟨env, S1, m1, w, S', er.gr g1, rl1, by simpa using he, fun H' m' rl' g' => k H' m' rl' (g1.trans g')⟩
    | false =>
      simp at he
      obtain ⟨rfl, rfl⟩ := he
      exact k H1 m1 rl1 g1
theorem mw_or (ha : PT X a (tMB X.K ta)) (hb : PW X (.BoolOp .Or (b :: rest) pos) (tMB X.K tb)) : PW X (.BoolOp .Or (a :: b :: rest) pos) (tMB X.K (mOr ta tb)) :=
  PW.imp (pw_or ha hb) fun σ H Q ⟨env, S, m, w, S', er, rl, he, k⟩ => by
    unfold mOr at he
    obtain ⟨⟨p, S1⟩, h1, he⟩ := bind_some he
    refine ⟨env, S, m, p, S1, er, rl, h1, fun H1 m1 rl1 g1 => ?_⟩
    cases p with
    | false => exact ⟨env, S1, m1, w, S', er.gr g1, rl1, by simpa using he, fun H' m' rl' g' => k H' m' rl' (g1.trans g')⟩
    | true =>
      simp at he
      obtain ⟨rfl, rfl⟩ := he
      exact k H1 m1 rl1 g1
theorem mt_not (ha : PT X a (tMB X.K ta)) : PT X (.UnaryOp .Not a pos) (tMB X.K (mNot ta)) :=
  PT.imp (pt_not ha) fun σ H Q ⟨env, S, m, w, S', er, rl, he, k⟩ => by
    unfold mNot at he
    obtain ⟨⟨p, S1⟩, h1, he⟩ := bind_some he
    cases he
    exact ⟨env, S, m, p, _, er, rl, h1, k⟩
/-- .. as values -/
def mAndV (f g : ME) : ME := fun env S => (f env S).bind fun p => match p.1 with
  | .d (.bl true) => g env p.2
  | .d (.bl false) => some (.d (.bl false), p.2)
  | _ => none
def mOrV (f g : ME) : ME := fun env S => (f env S).bind fun p => match p.1 with
  | .d (.bl false) => g env p.2
  | .d (.bl true) => some (.d (.bl true), p.2)
  | _ => none
def mNotV (f : ME) : ME := fun env S => (f env S).bind fun p => match p.1 with
  | .d (.bl b) => some (.d (.bl (!b)), p.2)
  | _ => none
theorem me_one {op} {f : ME} (h : PE X a (tM X.K f)) : PE X (.BoolOp op [a] pos) (tM X.K f) := pe_one h
theorem me_and (ha : PE X a (tM X.K fa)) (hb : PE X (.BoolOp .And (b :: rest) pos) (tM X.K fb)) : PE X (.BoolOp .And (a :: b :: rest) pos) (tM X.K (mAndV fa fb)) :=
  PE.imp (pe_and ha hb) fun σ H Q ⟨env, S, m, w, S', er, rl, he, k⟩ => by
    unfold mAndV at he
    obtain ⟨⟨p, S1⟩, h1, he⟩ := bind_some he
    refine ⟨env, S, m, p, S1, er, rl, h1, fun H1 m1 x rl1 g1 r1 => ?_⟩
    split at he
    · rename_i e0
      have e0 : p = .d (.bl true) := e0
      subst e0
      unfold WR DR at r1
      refine ⟨true, r1, ?_⟩
      rw [if_pos rfl]
      exact ⟨env, S1, m1, w, S', er.gr g1, rl1, he, fun H' m' v rl' g' => k H' m' v rl' (g1.trans g')⟩
    · rename_i e0
      have e0 : p = .d (.bl false) := e0
      subst e0
      unfold WR DR at r1
      cases he
      refine ⟨false, r1, ?_⟩
      rw [if_neg (by decide)]
      exact k H1 m1 _ rl1 g1 (by unfold WR DR; rfl)
    · cases he
theorem me_or (ha : PE X a (tM X.K fa)) (hb : PE X (.BoolOp .Or (b :: rest) pos) (tM X.K fb)) : PE X (.BoolOp .Or (a :: b :: rest) pos) (tM X.K (mOrV fa fb)) :=
  PE.imp (pe_or ha hb) fun σ H Q ⟨env, S, m, w, S', er, rl, he, k⟩ => by
    unfold mOrV at he
    obtain ⟨⟨p, S1⟩, h1, he⟩ := bind_some he
    refine ⟨env, S, m, p, S1, er, rl, h1, fun H1 m1 x rl1 g1 r1 => ?_⟩
    split at he
    · rename_i e0
      have e0 : p = .d (.bl false) := e0
      subst e0
      unfold WR DR at r1
      refine ⟨false, r1, ?_⟩
      rw [if_neg (by decide)]
      exact ⟨env, S1, m1, w, S', er.gr g1, rl1, he, fun H' m' v rl' g' => k H' m' v rl' (g1.trans g')⟩
    · rename_i e0
      have e0 : p = .d (.bl true) := e0
      subst e0
      unfold WR DR at r1
      cases he
      refine ⟨true, r1, ?_⟩
      rw [if_pos rfl]
      exact k H1 m1 _ rl1 g1 (by unfold WR DR; rfl)
    · cases he
theorem me_not (ha : PE X a (tM X.K fa)) : PE X (.UnaryOp .Not a pos) (tM X.K (mNotV fa)) :=
  PE.imp (pe_not ha) fun σ H Q ⟨env, S, m, w, S', er, rl, he, k⟩ => by
    unfold mNotV at he
    obtain ⟨⟨p, S1⟩, h1, he⟩ := bind_some he
    refine ⟨env, S, m, p, S1, er, rl, h1, fun H1 m1 x rl1 g1 r1 => ?_⟩
    split at he
    · rename_i b0 e0
      have e0 : p = .d (.bl b0) := e0
      subst e0
      unfold WR DR at r1
      cases he
      exact ⟨b0, r1, k H1 m1 _ rl1 g1 (by unfold WR DR; rfl)⟩
    · cases he
theorem me_if {c : Expr} (hc : PT X c (tMB X.K ta)) (ha : PE X a (tM X.K fa)) (hb : PE X b (tM X.K fb)) : PE X (.IfExp c a b pos) (tM X.K (mIf ta fa fb)) :=
  PE.imp (pe_ifExp hc ha hb) fun σ H Q ⟨env, S, m, w, S', er, rl, he, k⟩ => by
    unfold mIf at he
    obtain ⟨⟨p, S1⟩, h1, he⟩ := bind_some he
    refine ⟨env, S, m, p, S1, er, rl, h1, fun H1 m1 rl1 g1 => ?_⟩
    cases p with
    | true =>
      rw [if_pos rfl]
      exact ⟨env, S1, m1, w, S', er.gr g1, rl1, by simpa using he, fun H' m' v rl' g' => k H' m' v rl' (g1.trans g')⟩
    | false =>
      rw [if_neg (by decide)]
      exact ⟨env, S1, m1, w, S', er.gr g1, rl1, by simpa using he, fun H' m' v rl' g' => k H' m' v rl' (g1.trans g')⟩
/-! ### argument lists, displays -/
def mNil : MA := fun _ S => some ([], S)
def mCons (f : ME) (g : MA) : MA := fun env S => (f env S).bind fun p => (g env p.2).bind fun q => some (p.1 :: q.1, q.2)
variable {e : Expr} {es : List Expr} {f : ME} {ga : MA}
theorem ma_nil : PA X [] (tMA X.K mNil) := PA.imp pa_nil fun σ H Q ⟨env, S, m, w, S', er, rl, he, k⟩ => by
  cases he
  exact k H m [] rl .refl rfl
theorem ma_cons (ha : PE X e (tM X.K f)) (hr : PA X es (tMA X.K ga)) (hs : starEach (e :: es) X.env = (false, eval e X.env) :: starEach es X.env := by rfl) : PA X (e :: es) (tMA X.K (mCons f ga)) :=
  PA.imp (pa_cons ha hr hs) fun σ H Q ⟨env, S, m, w, S', er, rl, he, k⟩ => by
    unfold mCons at he
    obtain ⟨⟨p, S1⟩, h1, he⟩ := bind_some he
    obtain ⟨⟨q, S2⟩, h2, he⟩ := bind_some he
    cases he
    refine ⟨env, S, m, p, S1, er, rl, h1, fun H1 m1 x rl1 g1 r1 => ⟨env, S1, m1, q, _, er.gr g1, rl1, h2, fun H2 m2 xs rl2 g2 r2 => ?_⟩⟩
    exact k H2 m2 (x :: xs) rl2 (g1.trans g2) ⟨x, xs, rfl, r1.gr g2, r2⟩
end
/-- lists of the own store are given away; what is given is data -/
def give : List W → Sto → Option (List D × Sto)
  | [], S => some ([], S)
  | .d x :: ws, S => (give ws S).bind fun p => some (x :: p.1, p.2)
  | .ref n :: ws, S => match S[n]? with
    | some (.lst xs) => (give ws (S.set n .dead)).bind fun p => some (.lst xs :: p.1, p.2)
    | _ => none
  | .scr _ :: _, _ => none
theorem give_ok {K : PySem.W.Frag} : ∀ {ws : List W} {S S' : Sto} {ds : List D} {H : Hp} {m : Mp} {vs : List V}, give ws S = some (ds, S') → Rel K H m S → WRs K H m ws vs →
    ∃ m', Rel K H m' S' ∧ Gr K H m H m' ∧ DRs K H m' ds vs
  | [], S, S', ds, H, m, vs, h, rl, r => by
    cases h
    unfold WRs at r
    exact ⟨m, rl, .refl, r⟩
  | .d x :: ws, S, S', ds, H, m, vs, h, rl, r => by
    unfold give at h
    obtain ⟨⟨p, S1⟩, h1, h⟩ := bind_some h
    cases h
    obtain ⟨v, vs', rfl, r1, r2⟩ := r
    obtain ⟨m', a, b, c⟩ := give_ok h1 rl r2
    exact ⟨m', a, b, DRs.cons (DR.gr b r1) c⟩
  | .ref n :: ws, S, S', ds, H, m, vs, h, rl, r => by
    unfold give at h
    split at h
    · rename_i xs e0
      obtain ⟨⟨p, S1⟩, h1, h⟩ := bind_some h
      cases h
      obtain ⟨v, vs', rfl, r1, r2⟩ := r
      obtain ⟨o, ho⟩ : ∃ o, m.l[n]? = some o := ⟨m.l[n]'r1.1, by simp [r1.1]⟩
      obtain ⟨a, ys, rfl, ha, hd⟩ := rl.ob n _ _ e0 ho
      have ev := r1.2 a ho
      subst ev
      have g : Gr K H m H (m.kill n) := gr_move
      obtain ⟨m', x1, x2, x3⟩ := give_ok h1 rl.move (r2.gr g)
      exact ⟨m', x1, g.trans x2, DRs.cons (DR.gr x2 (moved rl ho ha hd)) x3⟩
    · cases h
  | .scr _ :: _, _, _, _, _, _, _, h, _, _ => by cases h
section
variable {X : Cx} {es : List Expr} {ga : MA} {pos : Pos} {j : Nat}
def mTup (ga : MA) : ME := fun env S => (ga env S).bind fun p => (give p.1 p.2).bind fun q => if q.1.length ≤ sizeLine then some (.d (.tup q.1), q.2) else none
/-- how a new list is held: for good, or in the own store -/
inductive Mk where
  | pure | own
def newL (k : Mk) (xs : List D) (S : Sto) : W × Sto := match k with
  | .pure => (.d (.lst xs), S)
  | .own => (.ref S.length, S ++ [.lst xs])
theorem newL_ok {K : PySem.W.Frag} {k : Mk} {xs : List D} {vs : List V} {S S' : Sto} {w : W} {H : Hp} {m : Mp} {Q : VK} (e : newL k xs S = (w, S')) (rl : Rel K H m S) (r : DRs K H m xs vs)
    (h : ∀ H' m' v, Rel K H' m' S' → Gr K H m H' m' → WR K H' m' w v → Q v H') : ∀ p, H p = none → Q (.ref p) (upd H p (.lst vs)) := by
  intro p hp
  cases k with
  | pure =>
    cases e
    have g : Gr K H m (upd H p (.lst vs)) m := .fresh hp
    refine h _ m _ (rl.fresh hp) g ?_
    unfold WR DR
    exact ⟨p, vs, rfl, upd_same, rl.free hp, DRs.gr g r⟩
  | own =>
    cases e
    refine h _ _ _ (rl.alloc hp r) (gr_alloc rl hp) ⟨by simp [rl.len, Mp.add], fun a e => ?_⟩
    unfold Mp.add at e
    dsimp only at e
    rw [rl.len, List.getElem?_append_right (Nat.le_refl _)] at e
    simp at e
    rw [e]
theorem me_tup (h : PA X es (tMA X.K ga)) : PE X (.Tuple es j pos) (tM X.K (mTup ga)) :=
  PE.imp (pe_tup h) fun σ H Q ⟨env, S, m, w, S', er, rl, he, k⟩ => by
    unfold mTup at he
    obtain ⟨⟨p, S1⟩, h1, he⟩ := bind_some he
    obtain ⟨⟨q, S2⟩, h2, he⟩ := bind_some he
    split at he
    · rename_i hz
      cases he
      refine ⟨env, S, m, p, S1, er, rl, h1, fun H1 m1 xs rl1 g1 r1 => ?_⟩
      obtain ⟨m2, rl2, g2, r2⟩ := give_ok h2 rl1 r1
      refine ⟨by rw [DRs.length r2]; exact hz, fun a ha => ?_⟩
      have g : Gr X.K H1 m2 (upd H1 a (.tup xs)) m2 := .fresh ha
      refine k _ m2 _ (rl2.fresh ha) ((g1.trans g2).trans g) ?_
      unfold WR DR
      exact ⟨a, xs, rfl, SqT.of upd_same, DRs.gr g r2⟩
    · cases he
def mList (k : Mk) (ga : MA) : ME := fun env S => (ga env S).bind fun p => (give p.1 p.2).bind fun q => if q.1.length ≤ sizeLine then some (newL k q.1 q.2) else none
theorem me_list (k : Mk) (h : PA X es (tMA X.K ga)) : PE X (.List es pos) (tM X.K (mList k ga)) :=
  PE.imp (pe_lst h) fun σ H Q ⟨env, S, m, w, S', er, rl, he, kk⟩ => by
    unfold mList at he
    obtain ⟨⟨p, S1⟩, h1, he⟩ := bind_some he
    obtain ⟨⟨q, S2⟩, h2, he⟩ := bind_some he
    split at he
    · rename_i hz
      have he := Option.some.inj he
      refine ⟨env, S, m, p, S1, er, rl, h1, fun H1 m1 xs rl1 g1 r1 => ?_⟩
      obtain ⟨m2, rl2, g2, r2⟩ := give_ok h2 rl1 r1
      exact ⟨by rw [DRs.length r2]; exact hz, newL_ok he rl2 r2 fun H' m' v rl' g' r' => kk H' m' v rl' ((g1.trans g2).trans g') r'⟩
    · cases he
end
end MW
end
section
set_option maxRecDepth 100000
/-! MW, part c: operators, subscripts, built-ins. -/
namespace MW
open PySem PySem.Spec L2

/-! ### ints -/
def gInt (g : Int → Int → Option D) : W → W → Sto → Option (W × Sto) := fun x y S => match x, y with
  | .d (.int i), .d (.int j) => (g i j).bind fun z => some (.d z, S)
  | _, _ => none
section
variable {X : Cx}
theorem opm_int {f : Value → Value → Sem Value} {C : Int → Int → Prop} {gv : Int → Int → V} {g : Int → Int → Option D} (ho : OpR X f (rI C gv)) (h : ∀ i j z, g i j = some z → C i j ∧ ∀ H m, DR X.K H m z (gv i j)) : OpM X f (gInt g) := by
  refine ⟨_, ho, fun H S m x y v u w S' Q rl rx ry e k => ?_⟩
  unfold gInt at e
  split at e
  · rename_i i j
    obtain ⟨z, h1, e⟩ := bind_some e
    cases e
    unfold WR DR at rx ry
    obtain ⟨c, r⟩ := h i j z h1
    exact ⟨i, j, rx, ry, c, k H m _ rl .refl (r H m)⟩
  · cases e
theorem rI0_rI (g : Int → Int → V) : rI0 g = rI (fun _ _ => True) g := by
  funext x y H Q
  unfold rI0 rI
  simp
theorem opm_int0 {f : Value → Value → Sem Value} {gv : Int → Int → V} {g : Int → Int → D} (ho : OpR X f (rI0 gv)) (h : ∀ i j H m, DR X.K H m (g i j) (gv i j)) : OpM X f (gInt fun i j => some (g i j)) := by
  rw [rI0_rI] at ho
  exact opm_int ho fun i j z e => by cases e; exact ⟨trivial, h i j⟩
theorem DR.int (K : PySem.W.Frag) (H : Hp) (m : Mp) (i : Int) : DR K H m (.int i) (.int i) := by unfold DR; rfl
theorem DR.bl (K : PySem.W.Frag) (H : Hp) (m : Mp) (b : Bool) : DR K H m (.bl b) (.bl b) := by unfold DR; rfl
theorem DR.str (K : PySem.W.Frag) (H : Hp) (m : Mp) (b : Str) : DR K H m (.str b) (.str b) := by unfold DR; rfl
theorem WR.int {K : PySem.W.Frag} {H : Hp} {m : Mp} {i : Int} : WR K H m (.d (.int i)) (.int i) := DR.int K H m i
theorem WR.bl {K : PySem.W.Frag} {H : Hp} {m : Mp} {i : Bool} : WR K H m (.d (.bl i)) (.bl i) := DR.bl K H m i
theorem WR.str {K : PySem.W.Frag} {H : Hp} {m : Mp} {i : Str} : WR K H m (.d (.str i)) (.str i) := DR.str K H m i
theorem WR.non {K : PySem.W.Frag} {H : Hp} {m : Mp} : WR K H m (.d .non) .non := by show DR K H m .non .non; unfold DR; rfl
theorem DR.non (K : PySem.W.Frag) (H : Hp) (m : Mp) : DR K H m .non .non := by unfold DR; rfl
def iAdd (i j : Int) : Option D := some (.int (i + j))
def iSub (i j : Int) : Option D := some (.int (i - j))
def iMul (i j : Int) : Option D := if i.natAbs.log2 + j.natAbs.log2 < 1000000 then some (.int (i * j)) else none
def iDiv (i j : Int) : Option D := if j ≠ 0 ∧ j.natAbs.log2 < 9000 then some (.int (i.fdiv j)) else none
def iMod (i j : Int) : Option D := if j ≠ 0 then some (.int (i.fmod j)) else none
def iPow (i j : Int) : Option D := if 0 ≤ j ∧ j ≤ 1000000 ∧ i.natAbs < 2 ^ 64 then some (.int (i ^ j.toNat)) else none
theorem om_addI : OpM X (binaryOp .Add) (gInt iAdd) := opm_int0 (g := fun i j => .int (i + j)) op_add fun _ _ _ _ => DR.int _ _ _ _
theorem om_sub : OpM X (binaryOp .Sub) (gInt iSub) := opm_int0 (g := fun i j => .int (i - j)) op_sub fun _ _ _ _ => DR.int _ _ _ _
theorem om_mulI : OpM X (binaryOp .Mult) (gInt iMul) := opm_int op_mulW fun i j z e => by
  unfold iMul at e
  split at e
  · cases e; exact ⟨by assumption, fun _ _ => DR.int _ _ _ _⟩
  · cases e
theorem op_fdivG : OpR X (binaryOp .FloorDiv) (rI (fun _ j => j ≠ 0 ∧ j.natAbs.log2 < 9000) fun i j => .int (i.fdiv j)) := opI fun i j _ _ _ _ _ hc q =>
  PyProof.Rows.floordiv_int hc.1 q (.inl (PyProof.noPylong_of_log2 hc.2))
theorem om_div : OpM X (binaryOp .FloorDiv) (gInt iDiv) := opm_int op_fdivG fun i j z e => by
  unfold iDiv at e
  split at e
  · cases e; exact ⟨by assumption, fun _ _ => DR.int _ _ _ _⟩
  · cases e
theorem om_mod : OpM X (binaryOp .Mod) (gInt iMod) := opm_int op_modN fun i j z e => by
  unfold iMod at e
  split at e
  · cases e; exact ⟨by assumption, fun _ _ => DR.int _ _ _ _⟩
  · cases e
theorem om_pow : OpM X (binaryOp .Pow) (gInt iPow) := opm_int op_pow fun i j z e => by
  unfold iPow at e
  split at e
  · cases e; exact ⟨by assumption, fun _ _ => DR.int _ _ _ _⟩
  · cases e
def iLt (i j : Int) : Option D := some (.bl (decide (i < j)))
def iLe (i j : Int) : Option D := some (.bl (decide (i ≤ j)))
def iGt (i j : Int) : Option D := some (.bl (decide (j < i)))
def iGe (i j : Int) : Option D := some (.bl (decide (j ≤ i)))
theorem om_lt : OpM X (compareOp .Lt) (gInt iLt) := opm_int0 (g := fun i j => .bl (decide (i < j))) op_lt fun _ _ _ _ => DR.bl _ _ _ _
theorem om_le : OpM X (compareOp .LtE) (gInt iLe) := opm_int0 (g := fun i j => .bl (decide (i ≤ j))) op_le fun _ _ _ _ => DR.bl _ _ _ _
theorem om_gt : OpM X (compareOp .Gt) (gInt iGt) := opm_int0 (g := fun i j => .bl (decide (j < i))) op_gt fun _ _ _ _ => DR.bl _ _ _ _
theorem om_ge : OpM X (compareOp .GtE) (gInt iGe) := opm_int0 (g := fun i j => .bl (decide (j ≤ i))) op_ge fun _ _ _ _ => DR.bl _ _ _ _
/-- -a -/
def gNeg : W → Sto → Option (W × Sto) := fun x S => match x with
  | .d (.int i) => some (.d (.int (-i)), S)
  | _ => none
variable {a b : Expr} {fa fb : ME} {pos : Pos}
theorem me_neg (ha : PE X a (tM X.K fa)) : PE X (.UnaryOp .USub a pos) (tM X.K (mUn gNeg fa)) :=
  PE.imp (pe_un un_neg ha) fun σ H Q ⟨env, S, m, w, S', er, rl, he, k⟩ => by
    unfold mUn at he
    obtain ⟨⟨p, S1⟩, h1, he⟩ := bind_some he
    refine ⟨env, S, m, p, S1, er, rl, h1, fun H1 m1 x rl1 g1 r1 => ?_⟩
    unfold gNeg at he
    split at he
    · rename_i i e0
      have e0 : p = .d (.int i) := e0
      subst e0
      cases he
      unfold WR DR at r1
      exact ⟨i, r1, k H1 m1 _ rl1 g1 WR.int⟩
    · cases he

/-! ### lists and tuples that are read -/
/-- the items of any list -/
def W.list (S : Sto) : W → Option (List D)
  | .d (.lst xs) => some xs
  | .scr ns => some (ns.map D.int)
  | .ref n => match S[n]? with
    | some (.lst xs) => some xs
    | _ => none
  | _ => none
/-- .. of a list that stands in the heap by itself -/
def W.listT (S : Sto) : W → Option (List D)
  | .d (.lst xs) => some xs
  | .ref n => match S[n]? with
    | some (.lst xs) => some xs
    | _ => none
  | _ => none
def W.tup : W → Option (List D)
  | .d (.tup xs) => some xs
  | _ => none
variable {K : PySem.W.Frag} {H : Hp} {m : Mp} {S : Sto} {w : W} {v : V} {xs : List D}
theorem ref_ok {n : Nat} (e0 : S[n]? = some (.lst xs)) (rl : Rel K H m S) (r : WR K H m (.ref n) v) : ∃ a vs, v = .ref a ∧ m.l[n]? = some (some a) ∧ H a = some (.lst vs) ∧ DRs K H m xs vs := by
  obtain ⟨o, ho⟩ : ∃ o, m.l[n]? = some o := ⟨m.l[n]'r.1, by simp [r.1]⟩
  obtain ⟨a, vs, rfl, ha, hd⟩ := rl.ob n _ _ e0 ho
  exact ⟨a, vs, r.2 a ho, ho, ha, hd⟩
theorem W.listT_ok (e : W.listT S w = some xs) (rl : Rel K H m S) (r : WR K H m w v) : ∃ a vs, v = .ref a ∧ H a = some (.lst vs) ∧ DRs K H m xs vs := by
  cases w with
  | d x =>
    cases x with
    | lst ys =>
      cases e
      unfold WR DR at r
      obtain ⟨a, vs, e, h, _, h2⟩ := r
      exact ⟨a, vs, e, h, h2⟩
    | _ => cases e
  | scr ns => cases e
  | ref n =>
    unfold W.listT at e
    dsimp only at e
    split at e
    · rename_i ys e0
      cases e
      obtain ⟨a, vs, h1, _, h2, h3⟩ := ref_ok e0 rl r
      exact ⟨a, vs, h1, h2, h3⟩
    · cases e
theorem W.list_ok (e : W.list S w = some xs) (rl : Rel K H m S) (r : WR K H m w v) : ∃ a vs, v = .ref a ∧ SqL K H a vs ∧ DRs K H m xs vs := by
  cases w with
  | d x =>
    cases x with
    | lst ys =>
      cases e
      unfold WR DR at r
      obtain ⟨a, vs, e, h, _, h2⟩ := r
      exact ⟨a, vs, e, SqL.of h, h2⟩
    | _ => cases e
  | scr ns =>
    cases e
    obtain ⟨a, e, h⟩ := r
    exact ⟨a, _, e, Fz.sq h, DRs.ints.mpr rfl⟩
  | ref n =>
    unfold W.list at e
    dsimp only at e
    split at e
    · rename_i ys e0
      cases e
      obtain ⟨a, vs, h1, _, h2, h3⟩ := ref_ok e0 rl r
      exact ⟨a, vs, h1, SqL.of h2, h3⟩
    · cases e
theorem W.tup_ok (e : W.tup w = some xs) (r : WR K H m w v) : ∃ a vs, v = .ref a ∧ SqT K H a vs ∧ DRs K H m xs vs := by
  unfold W.tup at e
  split at e
  · cases e
    unfold WR DR at r
    exact r
  · cases e
theorem DRs.nil_iff {ws : List D} {vs : List V} (h : DRs K H m ws vs) : vs = [] ↔ ws = [] := by
  cases ws with
  | nil => unfold DRs at h; simp [h]
  | cons w ws => unfold DRs at h; obtain ⟨v, vs', rfl, _⟩ := h; simp

/-! ### + and * of texts, tuples, lists -/
def gAddS : W → W → Sto → Option (W × Sto) := fun x y S => match x, y with
  | .d (.str a), .d (.str b) => if a.length + b.length ≤ sizeLine then some (.d (.str (a ++ b)), S) else none
  | _, _ => none
theorem om_addS : OpM X (binaryOp .Add) gAddS := by
  refine ⟨_, op_add_str, fun H S m x y v u w S' Q rl rx ry e k => ?_⟩
  unfold gAddS at e
  split at e
  · split at e
    · cases e
      unfold WR DR at rx ry
      exact ⟨_, _, rx, ry, by assumption, k H m _ rl .refl WR.str⟩
    · cases e
  · cases e
def gAddT : W → W → Sto → Option (W × Sto) := fun x y S => (W.tup x).bind fun xs => (W.tup y).bind fun ys => if xs.length + ys.length ≤ sizeLine then some (.d (.tup (xs ++ ys)), S) else none
theorem om_addT : OpM X (binaryOp .Add) gAddT := by
  refine ⟨_, op_catA, fun H S m x y v u w S' Q rl rx ry e k => ?_⟩
  unfold gAddT at e
  obtain ⟨xs, h1, e⟩ := bind_some e
  obtain ⟨ys, h2, e⟩ := bind_some e
  split at e
  · rename_i hz
    cases e
    obtain ⟨a, vs, rfl, ha, ra⟩ := W.tup_ok h1 rx
    obtain ⟨b, us, rfl, hb, rb⟩ := W.tup_ok h2 ry
    refine ⟨a, b, vs, us, rfl, rfl, ha, hb, by rw [DRs.length ra, DRs.length rb]; exact hz, fun z => ?_, fun z1 z2 => ?_, fun z1 z2 p hp => ?_⟩
    · have z := (DRs.nil_iff ra).mp z
      subst z
      exact k H m _ rl .refl (by unfold WR DR; exact ⟨b, us, rfl, hb, rb⟩)
    · have z := (DRs.nil_iff rb).mp z2
      subst z
      exact k H m _ rl .refl (by unfold WR DR; exact ⟨a, vs, rfl, ha, by simpa using ra⟩)
    · have g : Gr X.K H m (upd H p (.tup (vs ++ us))) m := .fresh hp
      exact k _ m _ (rl.fresh hp) g (by unfold WR DR; exact ⟨p, _, rfl, SqT.of upd_same, DRs.gr g (ra.append rb)⟩)
  · cases e
def gAddL (mk : Mk) : W → W → Sto → Option (W × Sto) := fun x y S => (W.listT S x).bind fun xs => (W.listT S y).bind fun ys => if xs.length + ys.length ≤ sizeLine then some (newL mk (xs ++ ys) S) else none
theorem om_addL (mk : Mk) : OpM X (binaryOp .Add) (gAddL mk) := by
  refine ⟨_, op_cat, fun H S m x y v u w S' Q rl rx ry e k => ?_⟩
  unfold gAddL at e
  obtain ⟨xs, h1, e⟩ := bind_some e
  obtain ⟨ys, h2, e⟩ := bind_some e
  split at e
  · rename_i hz
    obtain ⟨a, vs, rfl, ha, ra⟩ := W.listT_ok h1 rl rx
    obtain ⟨b, us, rfl, hb, rb⟩ := W.listT_ok h2 rl ry
    exact ⟨a, b, vs, us, rfl, rfl, ha, hb, by rw [DRs.length ra, DRs.length rb]; exact hz, newL_ok (Option.some.inj e) rl (ra.append rb) k⟩
  · cases e
def gAdd (mk : Mk) : W → W → Sto → Option (W × Sto) := gOr (gInt iAdd) (gOr gAddS (gOr gAddT (gAddL mk)))
theorem om_add (mk : Mk) : OpM X (binaryOp .Add) (gAdd mk) := om_addI.or (om_addS.or (om_addT.or (om_addL mk)))
theorem DRs.flat {xs : List D} {vs : List V} (h : DRs K H m xs vs) : ∀ n, DRs K H m (List.replicate n xs).flatten (List.replicate n vs).flatten
  | 0 => DRs.nil
  | n + 1 => by
    rw [List.replicate_succ, List.replicate_succ, List.flatten_cons, List.flatten_cons]
    exact h.append (DRs.flat h n)
def gMulL (mk : Mk) : W → W → Sto → Option (W × Sto) := fun x y S => (W.listT S x).bind fun xs => match y with
  | .d (.int k) => if -(2 ^ 63) ≤ k ∧ k < 2 ^ 63 ∧ xs.length * k.toNat ≤ sizeLine then some (newL mk (List.replicate k.toNat xs).flatten S) else none
  | _ => none
theorem om_mulL (mk : Mk) : OpM X (binaryOp .Mult) (gMulL mk) := by
  refine ⟨_, op_rep, fun H S m x y v u w S' Q rl rx ry e k => ?_⟩
  unfold gMulL at e
  obtain ⟨xs, h1, e⟩ := bind_some e
  split at e
  · split at e
    · rename_i i _ hz
      obtain ⟨a, vs, rfl, ha, ra⟩ := W.listT_ok h1 rl rx
      unfold WR DR at ry
      exact ⟨a, i, vs, rfl, ry, ha, hz.1, hz.2.1, by rw [DRs.length ra]; exact hz.2.2, newL_ok (Option.some.inj e) rl (ra.flat _) k⟩
    · cases e
  · cases e
def gMulT : W → W → Sto → Option (W × Sto) := fun x y S => (W.tup x).bind fun xs => match y with
  | .d (.int k) => if xs ≠ [] ∧ 2 ≤ k ∧ k ≤ 1000 ∧ xs.length ≤ 1000 then some (.d (.tup (List.replicate k.toNat xs).flatten), S) else none
  | _ => none
theorem om_mulT : OpM X (binaryOp .Mult) gMulT := by
  refine ⟨_, op_repT, fun H S m x y v u w S' Q rl rx ry e k => ?_⟩
  unfold gMulT at e
  obtain ⟨xs, h1, e⟩ := bind_some e
  split at e
  · split at e
    · rename_i i _ hz
      cases e
      obtain ⟨a, vs, rfl, ha, ra⟩ := W.tup_ok h1 rx
      unfold WR DR at ry
      refine ⟨a, i, vs, rfl, ry, ha, fun z => hz.1 ((DRs.nil_iff ra).mp z), hz.2.1, hz.2.2.1, by rw [DRs.length ra]; exact hz.2.2.2, fun p hp => ?_⟩
      have g : Gr X.K H m (upd H p (.tup (List.replicate i.toNat vs).flatten)) m := .fresh hp
      exact k _ m _ (rl.fresh hp) g (by unfold WR DR; exact ⟨p, _, rfl, SqT.of upd_same, DRs.gr g (ra.flat _)⟩)
    · cases e
  · cases e
def gMul (mk : Mk) : W → W → Sto → Option (W × Sto) := gOr (gInt iMul) (gOr gMulT (gMulL mk))
theorem om_mul (mk : Mk) : OpM X (binaryOp .Mult) (gMul mk) := om_mulI.or (om_mulT.or (om_mulL mk))

/-! ### == -/
mutual
def D.py : D → PyData
  | .non => .none
  | .bl b => .bool b
  | .int i => .int i
  | .str x => .str x
  | .tup xs => .tuple (D.pys xs)
  | .lst xs => .list (D.pys xs)
def D.pys : List D → List PyData
  | [] => []
  | x :: xs => D.py x :: D.pys xs
end
mutual
theorem DR.dp : ∀ {x : D} {v : V}, DR K H m x v → Dp K H v x.py
  | .non, v, h => by unfold DR at h; subst h; exact .non
  | .bl b, v, h => by unfold DR at h; subst h; exact .bl b
  | .int i, v, h => by unfold DR at h; subst h; exact .int i
  | .str x, v, h => by unfold DR at h; subst h; exact .str x
  | .tup xs, v, h => by
    unfold DR at h
    obtain ⟨a, vs, rfl, h1, h2⟩ := h
    exact .tup h1 (DRs.dp h2)
  | .lst xs, v, h => by
    unfold DR at h
    obtain ⟨a, vs, rfl, h1, _, h2⟩ := h
    exact .lst (SqL.of h1) (DRs.dp h2)
theorem DRs.dp : ∀ {xs : List D} {vs : List V}, DRs K H m xs vs → DpAll K H vs (D.pys xs)
  | [], vs, h => by unfold DRs at h; subst h; exact .nil
  | x :: xs, vs, h => by
    unfold DRs at h
    obtain ⟨v, vs', rfl, h1, h2⟩ := h
    exact .cons (DR.dp h1) (DRs.dp h2)
end
def W.py (S : Sto) : W → Option D
  | .d x => some x
  | w => (W.list S w).bind fun xs => some (.lst xs)
theorem W.py_ok {x : D} (e : W.py S w = some x) (rl : Rel K H m S) (r : WR K H m w v) : Dp K H v x.py := by
  unfold W.py at e
  split at e
  · cases e; exact DR.dp r
  · obtain ⟨xs, h1, e⟩ := bind_some e
    cases e
    obtain ⟨a, vs, rfl, h2, h3⟩ := W.list_ok h1 rl r
    exact .lst h2 (DRs.dp h3)
def D.shp (x : D) : Bool := SeqAt.shaped x.py
def D.eqv (x y : D) : Bool := PyData.eqv x.py y.py
def gEq : W → W → Sto → Option (W × Sto) := fun x y S => (W.py S x).bind fun a => (W.py S y).bind fun b => if a.shp = true ∧ b.shp = true then some (.d (.bl (a.eqv b)), S) else none
def gNe : W → W → Sto → Option (W × Sto) := fun x y S => (W.py S x).bind fun a => (W.py S y).bind fun b => if a.shp = true ∧ b.shp = true then some (.d (.bl (!a.eqv b)), S) else none
theorem om_eq {k : Nat} (hr : Room k X.A) : OpM X (compareOp .Eq) gEq := by
  refine ⟨_, op_eqD hr.units, fun H S m x y v u w S' Q rl rx ry e k => ?_⟩
  unfold gEq at e
  obtain ⟨a, h1, e⟩ := bind_some e
  obtain ⟨b, h2, e⟩ := bind_some e
  split at e
  · rename_i hz
    cases e
    exact ⟨_, _, W.py_ok h1 rl rx, W.py_ok h2 rl ry, hz.1, hz.2, k H m _ rl .refl WR.bl⟩
  · cases e
theorem om_ne {k : Nat} (hr : Room k X.A) : OpM X (compareOp .NotEq) gNe := by
  refine ⟨_, op_neD hr.units, fun H S m x y v u w S' Q rl rx ry e k => ?_⟩
  unfold gNe at e
  obtain ⟨a, h1, e⟩ := bind_some e
  obtain ⟨b, h2, e⟩ := bind_some e
  split at e
  · rename_i hz
    cases e
    exact ⟨_, _, W.py_ok h1 rl rx, W.py_ok h2 rl ry, hz.1, hz.2, k H m _ rl .refl WR.bl⟩
  · cases e

/-! ### is -/
def D.isNon : D → Bool
  | .non => true
  | _ => false
theorem DR.non_iff {x : D} {v : V} (h : DR K H m x v) : decide (v = .non) = x.isNon := by
  cases x <;> unfold DR at h
  · subst h; rfl
  · subst h; rfl
  · subst h; rfl
  · subst h; rfl
  · obtain ⟨a, vs, rfl, _⟩ := h; rfl
  · obtain ⟨a, vs, rfl, _⟩ := h; rfl
def W.isNon (S : Sto) : W → Option Bool
  | .d x => some x.isNon
  | w => (W.list S w).bind fun _ => some false
theorem W.isNon_ok {b : Bool} (e : W.isNon S w = some b) (rl : Rel K H m S) (r : WR K H m w v) : decide (v = .non) = b := by
  unfold W.isNon at e
  split at e
  · cases e; exact DR.non_iff r
  · obtain ⟨xs, h1, e⟩ := bind_some e
    cases e
    obtain ⟨a, vs, rfl, h2, h3⟩ := W.list_ok h1 rl r
    rfl
def gIsN : W → W → Sto → Option (W × Sto) := fun x y S => match y with
  | .d .non => (W.isNon S x).bind fun b => some (.d (.bl b), S)
  | _ => none
def gNotN : W → W → Sto → Option (W × Sto) := fun x y S => match y with
  | .d .non => (W.isNon S x).bind fun b => some (.d (.bl (!b)), S)
  | _ => none
theorem om_isN : OpM X (compareOp .Is) gIsN := by
  refine ⟨_, op_isN, fun H S m x y v u w S' Q rl rx ry e k => ?_⟩
  unfold gIsN at e
  split at e
  · obtain ⟨b, h1, e⟩ := bind_some e
    cases e
    unfold WR DR at ry
    exact ⟨ry, by rw [W.isNon_ok h1 rl rx]; exact k H m _ rl .refl WR.bl⟩
  · cases e
theorem om_notN : OpM X (compareOp .IsNot) gNotN := by
  refine ⟨_, op_notN, fun H S m x y v u w S' Q rl rx ry e k => ?_⟩
  unfold gNotN at e
  split at e
  · obtain ⟨b, h1, e⟩ := bind_some e
    cases e
    unfold WR DR at ry
    exact ⟨ry, by rw [W.isNon_ok h1 rl rx]; exact k H m _ rl .refl WR.bl⟩
  · cases e
def gIsB : W → W → Sto → Option (W × Sto) := fun x y S => match x, y with
  | .d (.bl a), .d (.bl b) => some (.d (.bl (decide (a = b))), S)
  | _, _ => none
theorem om_isB : OpM X (compareOp .Is) gIsB := by
  refine ⟨_, op_is_bl, fun H S m x y v u w S' Q rl rx ry e k => ?_⟩
  unfold gIsB at e
  split at e
  · cases e
    unfold WR DR at rx ry
    exact ⟨_, _, rx, ry, k H m _ rl .refl WR.bl⟩
  · cases e
theorem om_is : OpM X (compareOp .Is) (gOr gIsN gIsB) := om_isN.or om_isB

/-! ### in -/
def D.flat : D → Bool
  | .non => true
  | .bl _ => true
  | .int _ => true
  | .str _ => true
  | _ => false
theorem DR.flat {x : D} {v : V} (h : DR K H m x v) (f : x.flat = true) : flatV v = true := by
  cases x <;> unfold DR at h <;> first | (subst h; rfl) | cases f
theorem DR.eqV {x y : D} {v u : V} (h : DR K H m x v) (h' : DR K H m y u) (f : x.flat = true) (f' : y.flat = true) : L2.eqV v u = x.eqv y := by
  cases x <;> cases y <;> first | (cases f; done) | (cases f'; done) | (unfold DR at h h'; subst h h'; simp [L2.eqV, D.eqv, D.py, PyData.eqv])
theorem DRs.allFlat : ∀ {xs : List D} {vs : List V}, DRs K H m xs vs → xs.all D.flat = true → vs.all flatV = true
  | [], vs, h, _ => by unfold DRs at h; subst h; rfl
  | x :: xs, vs, h, f => by
    unfold DRs at h
    obtain ⟨v, vs', rfl, h1, h2⟩ := h
    rw [List.all_cons, Bool.and_eq_true] at f ⊢
    exact ⟨DR.flat h1 f.1, DRs.allFlat h2 f.2⟩
def inD (x : D) (xs : List D) : Bool := xs.any fun y => y.eqv x
theorem DRs.inV {x : D} {v : V} (h : DR K H m x v) (f : x.flat = true) : ∀ {xs : List D} {vs : List V}, DRs K H m xs vs → xs.all D.flat = true → L2.inV v vs = inD x xs
  | [], vs, h, _ => by unfold DRs at h; subst h; rfl
  | y :: xs, vs, h', f' => by
    unfold DRs at h'
    obtain ⟨u, vs', rfl, h1, h2⟩ := h'
    rw [List.all_cons, Bool.and_eq_true] at f'
    have ih := DRs.inV h f h2 f'.2
    unfold L2.inV inD at ih ⊢
    rw [List.any_cons, List.any_cons, ih, DR.eqV h1 h f'.1 f]
/-- a list or a tuple -/
def W.seq (S : Sto) (w : W) : Option (List D) := match W.list S w with
  | some xs => some xs
  | none => W.tup w
theorem W.seq_ok (e : W.seq S w = some xs) (rl : Rel K H m S) (r : WR K H m w v) : ∃ a vs, v = .ref a ∧ (SqL K H a vs ∨ SqT K H a vs) ∧ DRs K H m xs vs := by
  unfold W.seq at e
  split at e
  · rename_i ys e0
    cases e
    obtain ⟨a, vs, h1, h2, h3⟩ := W.list_ok e0 rl r
    exact ⟨a, vs, h1, .inl h2, h3⟩
  · obtain ⟨a, vs, h1, h2, h3⟩ := W.tup_ok e r
    exact ⟨a, vs, h1, .inr h2, h3⟩
def W.dat : W → Option D
  | .d x => some x
  | _ => none
def gIn (neg : Bool) : W → W → Sto → Option (W × Sto) := fun x y S => (W.dat x).bind fun z => (W.seq S y).bind fun ys => if z.flat = true ∧ ys.all D.flat = true then some (.d (.bl (if neg then !inD z ys else inD z ys)), S) else none
theorem W.dat_ok {x : D} (e : W.dat w = some x) (r : WR K H m w v) : DR K H m x v := by
  unfold W.dat at e
  split at e
  · cases e; exact r
  · cases e
theorem om_in : OpM X (compareOp .In) (gIn false) := by
  refine ⟨_, op_in_seq, fun H S m x y v u w S' Q rl rx ry e k => ?_⟩
  unfold gIn at e
  obtain ⟨z, h1, e⟩ := bind_some e
  obtain ⟨ys, h2, e⟩ := bind_some e
  split at e
  · rename_i hz
    cases e
    obtain ⟨a, vs, rfl, h3, h4⟩ := W.seq_ok h2 rl ry
    have rz := W.dat_ok h1 rx
    exact ⟨a, vs, rfl, h3, DR.flat rz hz.1, DRs.allFlat h4 hz.2, by rw [DRs.inV rz hz.1 h4 hz.2]; exact k H m _ rl .refl WR.bl⟩
  · cases e
theorem om_notIn : OpM X (compareOp .NotIn) (gIn true) := by
  refine ⟨_, op_notIn_seq, fun H S m x y v u w S' Q rl rx ry e k => ?_⟩
  unfold gIn at e
  obtain ⟨z, h1, e⟩ := bind_some e
  obtain ⟨ys, h2, e⟩ := bind_some e
  split at e
  · rename_i hz
    cases e
    obtain ⟨a, vs, rfl, h3, h4⟩ := W.seq_ok h2 rl ry
    have rz := W.dat_ok h1 rx
    exact ⟨a, vs, rfl, h3, DR.flat rz hz.1, DRs.allFlat h4 hz.2, by rw [DRs.inV rz hz.1 h4 hz.2]; exact k H m _ rl .refl WR.bl⟩
  · cases e
end
end MW
end
section
set_option maxRecDepth 100000
/-! MW, part d: subscripts, slices, built-ins, methods. -/
namespace MW
open PySem PySem.Spec L2
section
variable {X : Cx} {a b e : Expr} {fa fb f : ME} {pos : Pos} {es : List Expr} {ga : MA}

/-! ### subscripts -/
def gIx : W → W → Sto → Option (W × Sto) := fun x y S => match y with
  | .d (.int i) => (match x with
    | .d (.str s) => if s.length ≤ sizeLine then (atI s.cps.toList i).bind fun c => some (.d (.str ⟨#[c]⟩), S) else none
    | _ => (W.seq S x).bind fun xs => (atI xs i).bind fun z => some (.d z, S))
  | _ => none
theorem atI_get {K : PySem.W.Frag} {H : Hp} {m : Mp} {xs : List D} {vs : List V} {i : Int} {z : D} (h : DRs K H m xs vs) (e : atI xs i = some z) : ∃ v, atI vs i = some v ∧ DR K H m z v := by
  unfold atI at e ⊢
  rw [DRs.length h]
  cases q : ixN xs.length i with
  | none => rw [q] at e; cases e
  | some j =>
    rw [q] at e
    exact h.get e
theorem me_ix (ha : PE X a (tM X.K fa)) (hb : PE X b (tM X.K fb)) (hs : PlainIx b) : PE X (.Subscript a b pos) (tM X.K (mBin gIx fa fb)) := by
  refine PE.imp (pe_ix ix_seq ha hb hs) fun σ H Q ⟨env, S, m, w, S', er, rl, he, k⟩ => ?_
  refine t2 er rl he fun w1 z1 S2 H2 m2 x y rl2 g2 r1 r2 e => ?_
  unfold gIx at e
  split at e
  · unfold WR DR at r2
    rename_i i
    split at e
    · split at e
      · obtain ⟨c, h1, e⟩ := bind_some e
        cases e
        unfold WR DR at r1
        exact .inr (.inr ⟨_, _, c, r1, r2, by assumption, h1, k H2 m2 _ rl2 g2 WR.str⟩)
      · cases e
    · obtain ⟨xs, h1, e⟩ := bind_some e
      obtain ⟨z, h2, e⟩ := bind_some e
      cases e
      obtain ⟨p, vs, rfl, h3, h4⟩ := W.seq_ok h1 rl2 r1
      obtain ⟨v, h5, h6⟩ := atI_get h4 h2
      rcases h3 with h3 | h3
      · exact .inl ⟨p, vs, i, v, rfl, r2, h3, h5, k H2 m2 v rl2 g2 h6⟩
      · exact .inr (.inl ⟨p, vs, i, v, rfl, r2, h3, h5, k H2 m2 v rl2 g2 h6⟩)
  · cases e

/-! ### slices -/
def mNo : Env → Sto → Option (Option Int × Sto) := fun _ S => some (none, S)
def mSo (f : ME) : Env → Sto → Option (Option Int × Sto) := fun env S => (f env S).bind fun p => match p.1 with
  | .d (.int i) => some (some i, p.2)
  | _ => none
def tMO (K : PySem.W.Frag) (f : Env → Sto → Option (Option Int × Sto)) : TO := fun σ H Q => ∃ env S m w S', ER K H m env σ ∧ Rel K H m S ∧ f env S = some (w, S') ∧ ∀ H' m', Rel K H' m' S' → Gr K H m H' m' → Q w H'
theorem PO.imp {e : Option Expr} {t t' : TO} (h : PO X e t) (k : ∀ σ H Q, t' σ H Q → t σ H Q) : PO X e t' := ⟨fun pins s σ H Q I q => h.run pins s σ H Q I (k σ H Q q)⟩
theorem mo_no : PO X none (tMO X.K mNo) := PO.imp po_none fun σ H Q ⟨env, S, m, w, S', er, rl, he, k⟩ => by
  cases he
  exact k H m rl .refl
theorem mo_so (h : PE X e (tM X.K f)) : PO X (some e) (tMO X.K (mSo f)) := PO.imp (po_some h) fun σ H Q ⟨env, S, m, w, S', er, rl, he, k⟩ => by
  unfold mSo at he
  obtain ⟨⟨p, S1⟩, h1, he⟩ := bind_some he
  split at he
  · rename_i i e0
    have e0 : p = .d (.int i) := e0
    subst e0
    cases he
    refine ⟨env, S, m, _, _, er, rl, h1, fun H1 m1 x rl1 g1 r1 => ?_⟩
    unfold WR DR at r1
    exact ⟨i, r1, k H1 m1 rl1 g1⟩
  · cases he
def cutD (xs : List D) (lo hi : Option Int) : List D := (xs.drop (HT.sIx xs.length 0 lo)).take (HT.sIx xs.length xs.length hi - HT.sIx xs.length 0 lo)
theorem DRs.cut {K : PySem.W.Frag} {H : Hp} {m : Mp} {xs : List D} {vs : List V} (h : DRs K H m xs vs) (lo hi : Option Int) : DRs K H m (cutD xs lo hi) (cutV vs lo hi) := by
  unfold cutD cutV
  rw [DRs.length h]
  exact (h.drop _).take _
def gSl (mk : Mk) : W → Option Int → Option Int → Sto → Option (W × Sto) := fun x lo hi S => match x with
  | .d (.tup xs) => some (.d (.tup (cutD xs lo hi)), S)
  | .d (.str s) => if s.length ≤ sizeLine then some (.d (.str (cutS s lo hi)), S) else none
  | _ => (W.list S x).bind fun xs => some (newL mk (cutD xs lo hi) S)
def mSl (mk : Mk) (f : ME) (fl fh : Env → Sto → Option (Option Int × Sto)) : ME := fun env S => (f env S).bind fun p => (fl env p.2).bind fun q => (fh env q.2).bind fun r => gSl mk p.1 q.1 r.1 r.2
theorem me_sl (mk : Mk) {lo hi : Option Expr} {p2 : Pos} {fl fh : Env → Sto → Option (Option Int × Sto)} (he : PE X e (tM X.K f)) (hl : PO X lo (tMO X.K fl)) (hh : PO X hi (tMO X.K fh)) :
    PE X (.Subscript e (.Slice lo hi none p2) pos) (tM X.K (mSl mk f fl fh)) := by
  refine PE.imp (pe_slice (sl_list.or (sl_tupA.or sl_str)) he hl hh) fun σ H Q ⟨env, S, m, w, S', er, rl, he, k⟩ => ?_
  unfold mSl at he
  obtain ⟨⟨w1, S1⟩, h1, he⟩ := bind_some he
  obtain ⟨⟨l, S2⟩, h2, he⟩ := bind_some he
  obtain ⟨⟨u, S3⟩, h3, he⟩ := bind_some he
  refine ⟨env, S, m, w1, S1, er, rl, h1, fun H1 m1 x rl1 g1 r1 => ⟨env, S1, m1, l, S2, er.gr g1, rl1, h2, fun H2 m2 rl2 g2 => ⟨env, S2, m2, u, S3, (er.gr g1).gr g2, rl2, h3, fun H3 m3 rl3 g3 => ?_⟩⟩⟩
  have r3 := (r1.gr g2).gr g3
  have g := (g1.trans g2).trans g3
  unfold gSl at he
  dsimp only at he
  split at he
  · cases he
    obtain ⟨a, vs, rfl, h4, h5⟩ := W.tup_ok (w := W.d (.tup _)) rfl r3
    refine .inr (.inl ⟨a, vs, rfl, h4, fun z => ?_, fun z p hp => ?_⟩)
    · refine k H3 m3 _ rl3 g ?_
      unfold WR DR
      refine ⟨a, vs, rfl, h4, ?_⟩
      have z1 := h5.cut l u
      have : cutV vs l u = vs := by
        unfold cutV
        rw [z.1, z.2]
        simp
      rw [this] at z1
      exact z1
    · have g' : Gr X.K H3 m3 (upd H3 p (.tup (cutV vs l u))) m3 := .fresh hp
      exact k _ m3 _ (rl3.fresh hp) (g.trans g') (by unfold WR DR; exact ⟨p, _, rfl, SqT.of upd_same, DRs.gr g' (h5.cut l u)⟩)
  · split at he
    · cases he
      unfold WR DR at r3
      exact .inr (.inr ⟨_, r3, by assumption, k H3 m3 _ rl3 g WR.str⟩)
    · cases he
  · obtain ⟨xs, h4, he⟩ := bind_some he
    obtain ⟨a, vs, rfl, h5, h6⟩ := W.list_ok h4 rl3 r3
    exact .inl ⟨a, vs, rfl, h5, newL_ok (Option.some.inj he) rl3 (h6.cut l u) fun H' m' v rl' g' => k H' m' v rl' (g.trans g')⟩

/-! ### calls of built-ins by value -/
def CallM (X : Cx) (f : Value) (g : List W → Sto → Option (W × Sto)) : Prop :=
  ∃ r, CallR X f r ∧ ∀ (H : Hp) (S : Sto) (m : Mp) (ws : List W) (vs : List V) (w : W) (S' : Sto) (Q : VK), Rel X.K H m S → WRs X.K H m ws vs → g ws S = some (w, S') →
    (∀ H' m' z, Rel X.K H' m' S' → Gr X.K H m H' m' → WR X.K H' m' w z → Q z H') → r vs H Q
def mCall (g : List W → Sto → Option (W × Sto)) (ga : MA) : ME := fun env S => (ga env S).bind fun p => g p.1 p.2
theorem tCB_of {g : List W → Sto → Option (W × Sto)} {r : List V → Hp → VK → Prop} {σ : St} {H : Hp} {Q : VK} (q : ∀ (H : Hp) (S : Sto) (m : Mp) (ws : List W) (vs : List V) (w : W) (S' : Sto) (Q : VK), Rel X.K H m S → WRs X.K H m ws vs → g ws S = some (w, S') →
    (∀ H' m' z, Rel X.K H' m' S' → Gr X.K H m H' m' → WR X.K H' m' w z → Q z H') → r vs H Q) (h : tM X.K (mCall g ga) σ H Q) : tMA X.K ga σ H fun vs H1 => r vs H1 Q := by
  obtain ⟨env, S, m, w, S', er, rl, he, k⟩ := h
  unfold mCall at he
  obtain ⟨⟨ws, S1⟩, h1, he⟩ := bind_some he
  exact ⟨env, S, m, ws, S1, er, rl, h1, fun H1 m1 vs rl1 g1 r1 => q H1 S1 m1 ws vs w S' Q rl1 r1 he fun H' m' z rl' g' => k H' m' z rl' (g1.trans g')⟩
theorem me_callB {g : List W → Sto → Option (W × Sto)} {x : Str} {id : String} {p : Pos} (hc : CallM X (.builtin id) g) (hg : Gl X x) (hm : X.mg x = none) (hv : bootBuiltins x = some (.builtin id)) (ha : PA X (e :: es) (tMA X.K ga)) (hn : x ≠ "__name__" := by decide) (hdb : (x == ("__debug__" : Str)) = false := by decide)
    (he : starEach (e :: es) X.env = (false, eval e X.env) :: starEach es X.env := by rfl) (hpl : (backTo pos (starEach es X.env)).any (·.1) = false := by rfl) : PE X (.Call (.Name x p) (e :: es) [] pos) (tM X.K (mCall g ga)) := by
  obtain ⟨r, c, q⟩ := hc
  exact PE.imp (pe_callB c hg hm hv ha hn hdb he hpl) fun σ H Q h => tCB_of q h
theorem me_callTy {g : List W → Sto → Option (W × Sto)} {x : Str} {T : String} {p : Pos} (hc : CallM X (.type T) g) (hg : Gl X x) (hm : X.mg x = none) (hv : bootBuiltins x = some (.type T)) (ha : PA X (e :: es) (tMA X.K ga)) (hn : x ≠ "__name__" := by decide) (hdb : (x == ("__debug__" : Str)) = false := by decide)
    (he : starEach (e :: es) X.env = (false, eval e X.env) :: starEach es X.env := by rfl) (hpl : (backTo pos (starEach es X.env)).any (·.1) = false := by rfl) : PE X (.Call (.Name x p) (e :: es) [] pos) (tM X.K (mCall g ga)) := by
  obtain ⟨r, c, q⟩ := hc
  exact PE.imp (pe_callTy c hg hm hv ha hn hdb he hpl) fun σ H Q h => tCB_of q h
theorem WRs.one {K : PySem.W.Frag} {H : Hp} {m : Mp} {w : W} {vs : List V} (h : WRs K H m [w] vs) : ∃ v, vs = [v] ∧ WR K H m w v := by
  obtain ⟨v, vs', rfl, h1, h2⟩ := h
  unfold WRs at h2
  subst h2
  exact ⟨v, rfl, h1⟩
theorem WRs.two {K : PySem.W.Frag} {H : Hp} {m : Mp} {w z : W} {vs : List V} (h : WRs K H m [w, z] vs) : ∃ v u, vs = [v, u] ∧ WR K H m w v ∧ WR K H m z u := by
  obtain ⟨v, vs', rfl, h1, h2⟩ := h
  obtain ⟨u, e, h3⟩ := WRs.one h2
  subst e
  exact ⟨v, u, rfl, h1, h3⟩
/-- len -/
def gLen : List W → Sto → Option (W × Sto) := fun ws S => match ws with
  | [.d (.str s)] => if s.length ≤ sizeLine then some (.d (.int s.length), S) else none
  | [w] => (W.seq S w).bind fun xs => some (.d (.int xs.length), S)
  | _ => none
theorem cm_len : CallM X (.builtin "len") gLen := by
  refine ⟨_, call_len, fun H S m ws vs w S' Q rl rs e k => ?_⟩
  unfold gLen at e
  split at e
  · split at e
    · cases e
      obtain ⟨v, rfl, r⟩ := WRs.one rs
      unfold WR DR at r
      subst r
      rename_i s hz
      exact ⟨.str s, s.length, rfl, ⟨hz, rfl⟩, k H m _ rl .refl WR.int⟩
    · cases e
  · obtain ⟨xs, h1, e⟩ := bind_some e
    cases e
    obtain ⟨v, rfl, r⟩ := WRs.one rs
    obtain ⟨a, us, rfl, h2, h3⟩ := W.seq_ok h1 rl r
    refine ⟨.ref a, xs.length, rfl, ?_, k H m _ rl .refl WR.int⟩
    rcases h2 with h2 | h2
    · exact .inl ⟨us, h2, (DRs.length h3).symm⟩
    · exact .inr ⟨us, h2, (DRs.length h3).symm⟩
  · cases e
def gAbs : List W → Sto → Option (W × Sto) := fun ws S => match ws with
  | [.d (.int i)] => some (.d (.int (if i < 0 then -i else i)), S)
  | _ => none
theorem cm_abs : CallM X (.builtin "abs") gAbs := by
  refine ⟨_, call_abs, fun H S m ws vs w S' Q rl rs e k => ?_⟩
  unfold gAbs at e
  split at e
  · cases e
    obtain ⟨v, rfl, r⟩ := WRs.one rs
    unfold WR DR at r
    subst r
    exact ⟨_, rfl, k H m _ rl .refl WR.int⟩
  · cases e
def gToInt : List W → Sto → Option (W × Sto) := fun ws S => match ws with
  | [.d (.int i)] => some (.d (.int i), S)
  | [.d (.bl b)] => some (.d (.int (if b then 1 else 0)), S)
  | _ => none
theorem cm_int : CallM X (.type "int") gToInt := by
  refine ⟨_, call_int1, fun H S m ws vs w S' Q rl rs e k => ?_⟩
  unfold gToInt at e
  split at e
  · cases e
    obtain ⟨v, rfl, r⟩ := WRs.one rs
    unfold WR DR at r
    subst r
    exact .inl ⟨_, rfl, k H m _ rl .refl WR.int⟩
  · cases e
    obtain ⟨v, rfl, r⟩ := WRs.one rs
    unfold WR DR at r
    subst r
    exact .inr ⟨_, rfl, k H m _ rl .refl WR.int⟩
  · cases e
def gMax2 : List W → Sto → Option (W × Sto) := fun ws S => match ws with
  | [.d (.int i), .d (.int j)] => some (.d (.int (if j > i then j else i)), S)
  | _ => none
def gMin2 : List W → Sto → Option (W × Sto) := fun ws S => match ws with
  | [.d (.int i), .d (.int j)] => some (.d (.int (if j < i then j else i)), S)
  | _ => none
theorem cm_max2 (hc : X.calm = true) : CallM X (.builtin "max") gMax2 := by
  refine ⟨_, call_max2 hc, fun H S m ws vs w S' Q rl rs e k => ?_⟩
  unfold gMax2 at e
  split at e
  · cases e
    obtain ⟨v, u, rfl, r, r'⟩ := WRs.two rs
    unfold WR DR at r r'
    subst r r'
    exact ⟨_, _, rfl, k H m _ rl .refl WR.int⟩
  · cases e
theorem cm_min2 (hc : X.calm = true) : CallM X (.builtin "min") gMin2 := by
  refine ⟨_, call_min2 hc, fun H S m ws vs w S' Q rl rs e k => ?_⟩
  unfold gMin2 at e
  split at e
  · cases e
    obtain ⟨v, u, rfl, r, r'⟩ := WRs.two rs
    unfold WR DR at r r'
    subst r r'
    exact ⟨_, _, rfl, k H m _ rl .refl WR.int⟩
  · cases e
/-- whole numbers all -/
def intsD : List D → Option (List Int)
  | [] => some []
  | .int i :: xs => (intsD xs).bind fun is => some (i :: is)
  | _ :: _ => none
theorem ints_eq : ∀ {xs : List D} {is : List Int}, intsD xs = some is → xs = is.map D.int
  | [], is, h => by cases h; rfl
  | .int i :: xs, is, h => by
    unfold intsD at h
    obtain ⟨js, h1, h⟩ := bind_some h
    cases h
    rw [ints_eq h1]; rfl
  | .non :: xs, is, h => by cases h
  | .bl _ :: xs, is, h => by cases h
  | .str _ :: xs, is, h => by cases h
  | .tup _ :: xs, is, h => by cases h
  | .lst _ :: xs, is, h => by cases h
theorem ints_map (is : List Int) : intsD (is.map D.int) = some is := by
  induction is with
  | nil => rfl
  | cons i is ih => show (intsD (is.map D.int)).bind _ = _; rw [ih]; rfl
def boolsD : List D → Option (List Bool)
  | [] => some []
  | .bl i :: xs => (boolsD xs).bind fun is => some (i :: is)
  | _ :: _ => none
theorem bools_eq : ∀ {xs : List D} {is : List Bool}, boolsD xs = some is → xs = is.map D.bl
  | [], is, h => by cases h; rfl
  | .bl i :: xs, is, h => by
    unfold boolsD at h
    obtain ⟨js, h1, h⟩ := bind_some h
    cases h
    rw [bools_eq h1]; rfl
  | .non :: xs, is, h => by cases h
  | .int _ :: xs, is, h => by cases h
  | .str _ :: xs, is, h => by cases h
  | .tup _ :: xs, is, h => by cases h
  | .lst _ :: xs, is, h => by cases h
theorem bools_map (is : List Bool) : boolsD (is.map D.bl) = some is := by
  induction is with
  | nil => rfl
  | cons i is ih => show (boolsD (is.map D.bl)).bind _ = _; rw [ih]; rfl
theorem DRs.bls {K : PySem.W.Frag} {H : Hp} {m : Mp} {ns : List Bool} : ∀ {vs : List V}, DRs K H m (ns.map D.bl) vs → vs = ns.map V.bl := by
  induction ns with
  | nil => intro vs h; exact h
  | cons n ns ih =>
    intro vs h
    simp only [List.map_cons] at h
    unfold DRs at h
    obtain ⟨v, vs', rfl, h1, h2⟩ := h
    unfold DR at h1
    subst h1
    rw [ih h2]; rfl
/-- a function of a list of numbers -/
def gIs (g : List Int → Option D) : List W → Sto → Option (W × Sto) := fun ws S => match ws with
  | [w] => (W.list S w).bind fun xs => (intsD xs).bind fun is => (g is).bind fun z => some (.d z, S)
  | _ => none
theorem cm_sum (hc : X.calm = true) : CallM X (.builtin "sum") (gIs fun is => some (.int is.sum)) := by
  refine ⟨_, cr_sum hc, fun H S m ws vs w S' Q rl rs e k => ?_⟩
  unfold gIs at e
  split at e
  · obtain ⟨xs, h1, e⟩ := bind_some e
    obtain ⟨is, h2, e⟩ := bind_some e
    cases e
    obtain ⟨v, rfl, r⟩ := WRs.one rs
    obtain ⟨a, us, rfl, h3, h4⟩ := W.list_ok h1 rl r
    rw [ints_eq h2] at h4
    rw [DRs.ints.mp h4] at h3
    exact ⟨a, is, rfl, h3, k H m _ rl .refl WR.int⟩
  · cases e
def mostI : List Int → Option D
  | [] => none
  | i :: is => some (.int (is.foldl max i))
def leastI : List Int → Option D
  | [] => none
  | i :: is => some (.int (is.foldl min i))
theorem foldl_max : ∀ (is : List Int) (i : Int), (is.foldl max i = i ∨ is.foldl max i ∈ is) ∧ i ≤ is.foldl max i ∧ ∀ j ∈ is, j ≤ is.foldl max i
  | [], i => ⟨.inl rfl, Int.le_refl _, fun j h => nomatch h⟩
  | k :: is, i => by
    obtain ⟨h1, h2, h3⟩ := foldl_max is (max i k)
    show ((is.foldl max (max i k) = i ∨ is.foldl max (max i k) ∈ k :: is) ∧ i ≤ is.foldl max (max i k) ∧ ∀ j ∈ k :: is, j ≤ is.foldl max (max i k))
    refine ⟨?_, by omega, fun j hj => ?_⟩
    · rcases h1 with h1 | h1
      · rw [h1]
        by_cases c : i ≤ k
        · right; rw [Int.max_eq_right c]; simp
        · left; omega
      · right; exact List.mem_cons_of_mem _ h1
    · rcases List.mem_cons.mp hj with rfl | hj
      · omega
      · exact h3 j hj
theorem foldl_min : ∀ (is : List Int) (i : Int), (is.foldl min i = i ∨ is.foldl min i ∈ is) ∧ is.foldl min i ≤ i ∧ ∀ j ∈ is, is.foldl min i ≤ j
  | [], i => ⟨.inl rfl, Int.le_refl _, fun j h => nomatch h⟩
  | k :: is, i => by
    obtain ⟨h1, h2, h3⟩ := foldl_min is (min i k)
    show ((is.foldl min (min i k) = i ∨ is.foldl min (min i k) ∈ k :: is) ∧ is.foldl min (min i k) ≤ i ∧ ∀ j ∈ k :: is, is.foldl min (min i k) ≤ j)
    refine ⟨?_, by omega, fun j hj => ?_⟩
    · rcases h1 with h1 | h1
      · rw [h1]
        by_cases c : k ≤ i
        · right; rw [Int.min_eq_right c]; simp
        · left; omega
      · right; exact List.mem_cons_of_mem _ h1
    · rcases List.mem_cons.mp hj with rfl | hj
      · omega
      · exact h3 j hj
theorem cm_maxL (hc : X.calm = true) : CallM X (.builtin "max") (gIs mostI) := by
  refine ⟨_, cr_max hc, fun H S m ws vs w S' Q rl rs e k => ?_⟩
  unfold gIs at e
  split at e
  · obtain ⟨xs, h1, e⟩ := bind_some e
    obtain ⟨is, h2, e⟩ := bind_some e
    obtain ⟨z, h5, e⟩ := bind_some e
    cases e
    obtain ⟨v, rfl, r⟩ := WRs.one rs
    obtain ⟨a, us, rfl, h3, h4⟩ := W.list_ok h1 rl r
    rw [ints_eq h2] at h4
    rw [DRs.ints.mp h4] at h3
    cases is with
    | nil => cases h5
    | cons i is =>
      cases h5
      obtain ⟨q1, q2, q3⟩ := foldl_max is i
      refine ⟨a, _, rfl, h3, by simp, fun n hn hle => ?_⟩
      have : n = is.foldl max i := by
        have z1 : is.foldl max i ≤ n := by
          rcases q1 with q1 | q1
          · rw [q1]; exact hle i (by simp)
          · exact hle _ (List.mem_cons_of_mem _ q1)
        have z2 : n ≤ is.foldl max i := by
          rcases List.mem_cons.mp hn with rfl | hn
          · exact q2
          · exact q3 n hn
        omega
      rw [this]
      exact k H m _ rl .refl WR.int
  · cases e
theorem cm_minL (hc : X.calm = true) : CallM X (.builtin "min") (gIs leastI) := by
  refine ⟨_, cr_min hc, fun H S m ws vs w S' Q rl rs e k => ?_⟩
  unfold gIs at e
  split at e
  · obtain ⟨xs, h1, e⟩ := bind_some e
    obtain ⟨is, h2, e⟩ := bind_some e
    obtain ⟨z, h5, e⟩ := bind_some e
    cases e
    obtain ⟨v, rfl, r⟩ := WRs.one rs
    obtain ⟨a, us, rfl, h3, h4⟩ := W.list_ok h1 rl r
    rw [ints_eq h2] at h4
    rw [DRs.ints.mp h4] at h3
    cases is with
    | nil => cases h5
    | cons i is =>
      cases h5
      obtain ⟨q1, q2, q3⟩ := foldl_min is i
      refine ⟨a, _, rfl, h3, by simp, fun n hn hle => ?_⟩
      have : n = is.foldl min i := by
        have z1 : n ≤ is.foldl min i := by
          rcases q1 with q1 | q1
          · rw [q1]; exact hle i (by simp)
          · exact hle _ (List.mem_cons_of_mem _ q1)
        have z2 : is.foldl min i ≤ n := by
          rcases List.mem_cons.mp hn with rfl | hn
          · exact q2
          · exact q3 n hn
        omega
      rw [this]
      exact k H m _ rl .refl WR.int
  · cases e
def gBs (g : List Bool → Bool) : List W → Sto → Option (W × Sto) := fun ws S => match ws with
  | [w] => (W.list S w).bind fun xs => (boolsD xs).bind fun is => some (.d (.bl (g is)), S)
  | _ => none
theorem cm_all (hc : X.calm = true) : CallM X (.builtin "all") (gBs fun is => is.all id) := by
  refine ⟨_, cr_all hc, fun H S m ws vs w S' Q rl rs e k => ?_⟩
  unfold gBs at e
  split at e
  · obtain ⟨xs, h1, e⟩ := bind_some e
    obtain ⟨is, h2, e⟩ := bind_some e
    cases e
    obtain ⟨v, rfl, r⟩ := WRs.one rs
    obtain ⟨a, us, rfl, h3, h4⟩ := W.list_ok h1 rl r
    rw [bools_eq h2] at h4
    rw [DRs.bls h4] at h3
    exact ⟨a, is, rfl, h3, k H m _ rl .refl WR.bl⟩
  · cases e
theorem cm_any (hc : X.calm = true) : CallM X (.builtin "any") (gBs fun is => is.any id) := by
  refine ⟨_, cr_any hc, fun H S m ws vs w S' Q rl rs e k => ?_⟩
  unfold gBs at e
  split at e
  · obtain ⟨xs, h1, e⟩ := bind_some e
    obtain ⟨is, h2, e⟩ := bind_some e
    cases e
    obtain ⟨v, rfl, r⟩ := WRs.one rs
    obtain ⟨a, us, rfl, h3, h4⟩ := W.list_ok h1 rl r
    rw [bools_eq h2] at h4
    rw [DRs.bls h4] at h3
    exact ⟨a, is, rfl, h3, k H m _ rl .refl WR.bl⟩
  · cases e
/-- list(xs), tuple(xs) -/
def gListOf (mk : Mk) : List W → Sto → Option (W × Sto) := fun ws S => match ws with
  | [w] => (W.seq S w).bind fun xs => some (newL mk xs S)
  | _ => none
theorem cm_list (mk : Mk) : CallM X (.type "list") (gListOf mk) := by
  refine ⟨_, call_list_of, fun H S m ws vs w S' Q rl rs e k => ?_⟩
  unfold gListOf at e
  split at e
  · obtain ⟨xs, h1, e⟩ := bind_some e
    obtain ⟨v, rfl, r⟩ := WRs.one rs
    obtain ⟨a, us, rfl, h3, h4⟩ := W.seq_ok h1 rl r
    exact ⟨a, us, rfl, h3, newL_ok (Option.some.inj e) rl h4 k⟩
  · cases e
def gTupOf : List W → Sto → Option (W × Sto) := fun ws S => match ws with
  | [w] => (W.seq S w).bind fun xs => some (.d (.tup xs), S)
  | _ => none
theorem cm_tuple : CallM X (.type "tuple") gTupOf := by
  refine ⟨_, call_tuple_of, fun H S m ws vs w S' Q rl rs e k => ?_⟩
  unfold gTupOf at e
  split at e
  · obtain ⟨xs, h1, e⟩ := bind_some e
    cases e
    obtain ⟨v, rfl, r⟩ := WRs.one rs
    obtain ⟨a, us, rfl, h3, h4⟩ := W.seq_ok h1 rl r
    refine ⟨a, us, rfl, ?_⟩
    rcases h3 with h3 | h3
    · refine .inl ⟨h3, fun p hp => ?_⟩
      have g' : Gr X.K H m (upd H p (.tup us)) m := .fresh hp
      exact k _ m _ (rl.fresh hp) g' (by unfold WR DR; exact ⟨p, _, rfl, SqT.of upd_same, DRs.gr g' h4⟩)
    · exact .inr ⟨h3, k H m _ rl .refl (by unfold WR DR; exact ⟨a, us, rfl, h3, h4⟩)⟩
  · cases e
end
end MW
end
section
set_option maxRecDepth 100000
/-! MW, part e: isinstance, methods, targets, statements, loops. -/
namespace MW
open PySem PySem.Spec L2
section
variable {X : Cx} {a b e o : Expr} {fa fb f fo fi : ME} {pos : Pos} {es : List Expr} {ga : MA}

/-! ### isinstance -/
def tyD : D → String
  | .non => "NoneType"
  | .bl _ => "bool"
  | .int _ => "int"
  | .str _ => "str"
  | .tup _ => "tuple"
  | .lst _ => "list"
def W.ty (S : Sto) : W → Option String
  | .d x => some (tyD x)
  | w => (W.list S w).bind fun _ => some "list"
theorem SqL.tyx {K : PySem.W.Frag} {H : Hp} {a : Addr} {xs : List V} (h : SqL K H a xs) : TyX K H (.ref a) (.type "list") := by
  rcases h with (h | ⟨o, h⟩) | ⟨o, its, n, h, c, _⟩
  · exact .base (.lst h)
  · exact .base (.frz h)
  · exact .kList h c
theorem SqT.tyx {K : PySem.W.Frag} {H : Hp} {a : Addr} {xs : List V} (h : SqT K H a xs) : TyX K H (.ref a) (.type "tuple") := by
  rcases h with (h | ⟨o, h⟩) | ⟨o, its, n, h, c, _⟩
  · exact .base (.tup h)
  · exact .fTuple h
  · exact .kTuple h c
theorem DR.tyx {K : PySem.W.Frag} {H : Hp} {m : Mp} {x : D} {v : V} (h : DR K H m x v) : TyX K H v (.type (tyD x)) := by
  cases x <;> unfold DR at h
  · subst h; exact .base .non
  · subst h; exact .base (.bl _)
  · subst h; exact .base (.int _)
  · subst h; exact .base (.str _)
  · obtain ⟨a, vs, rfl, h, _⟩ := h; exact SqT.tyx h
  · obtain ⟨a, vs, rfl, h, _⟩ := h; exact SqL.tyx (SqL.of h)
theorem W.ty_ok {K : PySem.W.Frag} {H : Hp} {m : Mp} {S : Sto} {w : W} {v : V} {t : String} (e : W.ty S w = some t) (rl : Rel K H m S) (r : WR K H m w v) : TyX K H v (.type t) := by
  unfold W.ty at e
  split at e
  · cases e; exact DR.tyx r
  · obtain ⟨xs, h1, e⟩ := bind_some e
    cases e
    obtain ⟨a, vs, rfl, h2, _⟩ := W.list_ok h1 rl r
    exact SqL.tyx h2
/-- a built-in class among others: is a thing of the type t one of T? -/
def isT (t T : String) : Bool := t == T || (t == "bool" && T == "int")
def kitOk (T : String) : Bool := ["NoneType", "bool", "int", "str", "tuple", "list"].all fun t => kitB t T == some (isT t T)
theorem tys_mem {S : Sto} {w : W} {t : String} (e : W.ty S w = some t) : t ∈ ["NoneType", "bool", "int", "str", "tuple", "list"] := by
  unfold W.ty at e
  split at e
  · cases e
    rename_i x
    cases x <;> simp [tyD]
  · obtain ⟨xs, h1, e⟩ := bind_some e
    cases e
    decide
def gIsi (T : String) : W → Sto → Option (W × Sto) := fun w S => (W.ty S w).bind fun t => some (.d (.bl (isT t T)), S)
theorem me_isi {x c : Str} {p pc : Pos} {T : String} (hg : Gl X x) (hm : X.mg x = none) (hv : bootBuiltins x = some (.builtin "isinstance")) (hgc : Gl X c) (hmc : X.mg c = none) (hvc : bootBuiltins c = some (.type T)) (hk : kitOk T = true) (ha : PE X a (tM X.K fa))
    (hn : x ≠ "__name__" := by decide) (hdb : (x == ("__debug__" : Str)) = false := by decide) (hn' : c ≠ "__name__" := by decide) (hdb' : (c == ("__debug__" : Str)) = false := by decide) (hst : starEach [a, .Name c pc] X.env = (false, eval a X.env) :: starEach [.Name c pc] X.env := by rfl) : PE X (.Call (.Name x p) [a, .Name c pc] [] pos) (tM X.K (mUn (gIsi T) fa)) := by
  refine PE.imp (pe_callB call_isi hg hm hv (pa_cons ha (pa_cons (pe_bltn (v := .ty T) hgc hmc hvc rfl hn' hdb') pa_nil) hst) hn hdb hst) fun σ H Q ⟨env, S, m, w, S', er, rl, he, k⟩ => ?_
  unfold mUn at he
  obtain ⟨⟨w1, S1⟩, h1, he⟩ := bind_some he
  refine ⟨env, S, m, w1, S1, er, rl, h1, fun H1 m1 v rl1 g1 r1 => ?_⟩
  unfold gIsi at he
  obtain ⟨t, h2, he⟩ := bind_some he
  cases he
  have hb : kitB t T = some (isT t T) := by
    have := List.all_eq_true.mp hk t (tys_mem h2)
    simpa using this
  exact ⟨v, .ty T, .type t, .type T, isT t T, rfl, .ty T, W.ty_ok h2 rl1 r1, hb, k H1 m1 _ rl1 g1 WR.bl⟩
def gIsi2 (T T' : String) : W → Sto → Option (W × Sto) := fun w S => (W.ty S w).bind fun t => some (.d (.bl (isT t T || isT t T')), S)
theorem me_isi2 {x c c' : Str} {p pc pc' pt : Pos} {jt : Nat} {T T' : String} (hg : Gl X x) (hm : X.mg x = none) (hv : bootBuiltins x = some (.builtin "isinstance")) (hgc : Gl X c) (hmc : X.mg c = none) (hvc : bootBuiltins c = some (.type T)) (hk : kitOk T = true)
    (hgc' : Gl X c') (hmc' : X.mg c' = none) (hvc' : bootBuiltins c' = some (.type T')) (hk' : kitOk T' = true) (ha : PE X a (tM X.K fa))
    (hn : x ≠ "__name__" := by decide) (hdb : (x == ("__debug__" : Str)) = false := by decide) (hn' : c ≠ "__name__" := by decide) (hdb' : (c == ("__debug__" : Str)) = false := by decide) (hn2 : c' ≠ "__name__" := by decide) (hdb2 : (c' == ("__debug__" : Str)) = false := by decide)
    (hst : starEach [a, .Tuple [.Name c pc, .Name c' pc'] jt pt] X.env = (false, eval a X.env) :: starEach [.Tuple [.Name c pc, .Name c' pc'] jt pt] X.env := by rfl) :
    PE X (.Call (.Name x p) [a, .Tuple [.Name c pc, .Name c' pc'] jt pt] [] pos) (tM X.K (mUn (gIsi2 T T') fa)) := by
  refine PE.imp (pe_callB call_isiT hg hm hv (pa_cons ha (pa_cons (pe_tup (pa_cons (pe_bltn (v := .ty T) hgc hmc hvc rfl hn' hdb') (pa_cons (pe_bltn (v := .ty T') hgc' hmc' hvc' rfl hn2 hdb2) pa_nil))) pa_nil) hst) hn hdb hst) fun σ H Q ⟨env, S, m, w, S', er, rl, he, k⟩ => ?_
  unfold mUn at he
  obtain ⟨⟨w1, S1⟩, h1, he⟩ := bind_some he
  refine ⟨env, S, m, w1, S1, er, rl, h1, fun H1 m1 v rl1 g1 r1 => ?_⟩
  unfold gIsi2 at he
  obtain ⟨t, h2, he⟩ := bind_some he
  cases he
  have hb : kitB t T = some (isT t T) := by
    have := List.all_eq_true.mp hk t (tys_mem h2)
    simpa using this
  have hb' : kitB t T' = some (isT t T') := by
    have := List.all_eq_true.mp hk' t (tys_mem h2)
    simpa using this
  refine ⟨by show 2 ≤ sizeLine; decide, fun tp htp => ?_⟩
  have g : Gr X.K H1 m1 (upd H1 tp (.tup [.ty T, .ty T'])) m1 := .fresh htp
  refine ⟨v, tp, _, .type t, [.type T, .type T'], isT t T || isT t T', rfl, upd_same, .cons (.ty T) (.cons (.ty T') .nil), W.ty_ok h2 (rl1.fresh htp) (r1.gr g), ?_, k _ m1 _ (rl1.fresh htp) (g1.trans g) WR.bl⟩
  refine kitAny_cons (kit_ty hb) (fun z => ?_) fun z => by rw [z]; rfl
  rw [z, Bool.false_or]
  exact kitAny_cons (kit_ty hb') (fun z => by rw [z]; exact kitAny_nil) fun z => z

/-! ### methods of built-in types -/
/-- the receiver's type, its method by values -/
def MtMM (X : Cx) (T id : String) (g : W → List W → Sto → Option (W × Sto)) : Prop :=
  ∃ r, MtR X id r ∧ (∀ (H : Hp) (S : Sto) (m : Mp) (x : W) (v : V), Rel X.K H m S → WR X.K H m x v → (∃ ws S' r, g x ws S' = some r) → W.ty S x = some T → tyV X.K T v H) ∧
    ∀ (H : Hp) (S : Sto) (m : Mp) (x : W) (v : V) (ws : List W) (vs : List V) (w : W) (S' : Sto) (Q : VK), Rel X.K H m S → WR X.K H m x v → WRs X.K H m ws vs → g x ws S = some (w, S') →
    (∀ H' m' z, Rel X.K H' m' S' → Gr X.K H m H' m' → WR X.K H' m' w z → Q z H') → r v vs H Q
def mMeth (T : String) (g : W → List W → Sto → Option (W × Sto)) (fo : ME) (ga : MA) : ME := fun env S => (fo env S).bind fun p => if W.ty p.2 p.1 = some T then (ga env p.2).bind fun q => g p.1 q.1 q.2 else none
section
variable {T id : String} {g : W → List W → Sto → Option (W × Sto)} {name : Str} {apos cpos : Pos}
theorem me_meth (pa : PlainAttrs T) (slot : Slot T name id) (hty : typeOf (.builtin id) = pure (.type "method_descriptor")) (hm : MtMM X T id g) (ho : PE X o (tM X.K fo)) (ha : PA X (e :: es) (tMA X.K ga))
    (hbase : attributeBase o name X.env (eval o X.env) = eval o X.env := by rfl)
    (hfew : ((backTo cpos (starEach (e :: es) X.env)).all (fun x => !x.1) && (backToKw cpos (keywordEach [] X.env)).all (fun x => x.1.isSome)
      && decide ((e :: es).length + ([] : List Keyword).length + (if ([] : List Keyword).isEmpty then 0 else 1) < 30)) = true := by rfl)
    (hline : (apos.endLine == cpos.line) = true := by rfl) (hs : starEach (e :: es) X.env = (false, eval e X.env) :: starEach es X.env := by rfl) (hplain : (backTo cpos (starEach es X.env)).any (·.1) = false := by rfl) :
    PE X (.Call (.Attribute o name apos) (e :: es) [] cpos) (tM X.K (mMeth T g fo ga)) := by
  obtain ⟨r, c, ty, q⟩ := hm
  refine PE.imp (pe_bm pa slot hty c ho ha hbase hfew hline hs hplain) fun σ H Q ⟨env, S, m, w, S', er, rl, he, k⟩ => ?_
  unfold mMeth at he
  obtain ⟨⟨x, S1⟩, h1, he⟩ := bind_some he
  split at he
  · rename_i hT
    obtain ⟨⟨ws, S2⟩, h2, he⟩ := bind_some he
    refine ⟨env, S, m, x, S1, er, rl, h1, fun H1 m1 v rl1 g1 r1 => ⟨ty H1 S1 m1 x v rl1 r1 ⟨_, _, _, he⟩ hT, env, S1, m1, ws, S2, er.gr g1, rl1, h2, fun H2 m2 vs rl2 g2 r2 => ?_⟩⟩
    exact q H2 S2 m2 x v ws vs w S' Q rl2 (r1.gr g2) r2 he fun H' m' z rl' g' => k H' m' z rl' ((g1.trans g2).trans g')
  · cases he
theorem me_meth0 (pa : PlainAttrs T) (slot : Slot T name id) (hty : typeOf (.builtin id) = pure (.type "method_descriptor")) (hm : MtMM X T id g) (ho : PE X o (tM X.K fo))
    (hbase : attributeBase o name X.env (eval o X.env) = eval o X.env := by rfl) (hline : (apos.endLine == cpos.line) = true := by rfl) : PE X (.Call (.Attribute o name apos) [] [] cpos) (tM X.K (mMeth T g fo mNil)) := by
  obtain ⟨r, c, ty, q⟩ := hm
  refine PE.imp (pe_bm0 pa slot hty c ho hbase hline) fun σ H Q ⟨env, S, m, w, S', er, rl, he, k⟩ => ?_
  unfold mMeth at he
  obtain ⟨⟨x, S1⟩, h1, he⟩ := bind_some he
  split at he
  · rename_i hT
    obtain ⟨⟨ws, S2⟩, h2, he⟩ := bind_some he
    cases h2
    refine ⟨env, S, m, x, S1, er, rl, h1, fun H1 m1 v rl1 g1 r1 => ⟨ty H1 S1 m1 x v rl1 r1 ⟨_, _, _, he⟩ hT, ?_⟩⟩
    exact q H1 S1 m1 x v [] [] w S' Q rl1 r1 rfl he fun H' m' z rl' g' => k H' m' z rl' (g1.trans g')
  · cases he
end
theorem tyV_list {K : PySem.W.Frag} {H : Hp} {m : Mp} {S : Sto} {x : W} {v : V} (rl : Rel K H m S) (r : WR K H m x v) (e : W.ty S x = some "list") : tyV K "list" v H := by
  cases x with
  | d x =>
    cases x with
    | lst xs =>
      unfold WR DR at r
      obtain ⟨a, vs, rfl, h, _⟩ := r
      exact .inl ⟨rfl, vs, SqL.of h⟩
    | _ => simp [W.ty, tyD] at e
  | scr ns =>
    obtain ⟨a, rfl, h⟩ := r
    exact .inl ⟨rfl, _, Fz.sq h⟩
  | ref n =>
    unfold W.ty at e
    obtain ⟨xs, h1, _⟩ := bind_some e
    obtain ⟨a, vs, rfl, h2, _⟩ := W.list_ok h1 rl r
    exact .inl ⟨rfl, vs, h2⟩
/-- xs.append(e) -/
def gAppend : W → List W → Sto → Option (W × Sto) := fun x ws S => match x with
  | .ref n => (match give ws S with
    | some ([d], S1) => (match S1[n]? with
      | some (.lst xs) => if xs.length < sizeLine then some (.d .non, S1.set n (.lst (xs ++ [d]))) else none
      | _ => none)
    | _ => none)
  | _ => none
theorem mm_append : MtMM X "list" "list.append" gAppend := by
  refine ⟨_, mt_append, fun H S m x v rl r _ e => tyV_list rl r e, fun H S m x v ws vs w S' Q rl r rs e k => ?_⟩
  unfold gAppend at e
  split at e
  · rename_i n
    split at e
    · rename_i d S1 h1
      obtain ⟨m1, rl1, g1, r1⟩ := give_ok h1 rl rs
      split at e
      · rename_i xs h2
        split at e
        · rename_i hz
          cases e
          obtain ⟨a, us, rfl, hn, ha, hd⟩ := ref_ok h2 rl1 (r.gr g1)
          unfold DRs at r1
          obtain ⟨y, vs', rfl, r1, r2⟩ := r1
          unfold DRs at r2
          subst r2
          exact ⟨a, us, y, rfl, rfl, ha, by rw [DRs.length hd]; exact hz, k _ m1 _ (rl1.write hn ha (hd.append (DRs.one r1))) (g1.trans (gr_write rl1 hn ha)) WR.non⟩
        · cases e
      · cases e
    · cases e
  · cases e
/-- xs.pop(i) -/
def gPopAt : W → List W → Sto → Option (W × Sto) := fun x ws S => match x, ws with
  | .ref n, [.d (.int i)] => (match S[n]? with
    | some (.lst xs) => if -(2 ^ 63) ≤ i ∧ i < 2 ^ 63 then (seqIndex? i xs.length).bind fun k => (xs[k]?).bind fun y => some (.d y, S.set n (.lst (xs.eraseIdx k))) else none
    | _ => none)
  | _, _ => none
theorem mm_popAt : MtMM X "list" "list.pop" gPopAt := by
  refine ⟨_, mt_popAt, fun H S m x v rl r _ e => tyV_list rl r e, fun H S m x v ws vs w S' Q rl r rs e k => ?_⟩
  unfold gPopAt at e
  split at e
  · rename_i n i
    split at e
    · rename_i xs h2
      split at e
      · rename_i hz
        obtain ⟨j, h3, e⟩ := bind_some e
        obtain ⟨y, h4, e⟩ := bind_some e
        cases e
        obtain ⟨a, us, rfl, hn, ha, hd⟩ := ref_ok h2 rl r
        obtain ⟨u, rfl, ru⟩ := WRs.one rs
        unfold WR DR at ru
        subst ru
        obtain ⟨z, h5, h6⟩ := hd.get h4
        exact ⟨a, us, i, j, z, rfl, rfl, ha, hz.1, hz.2, by rw [DRs.length hd]; exact h3, h5, k _ m _ (rl.write hn ha (hd.erase j)) (gr_write rl hn ha) (DR.gr (gr_write rl hn ha) h6)⟩
      · cases e
    · cases e
  · cases e
/-- xs.pop() -/
def gPop : W → List W → Sto → Option (W × Sto) := fun x ws S => match x, ws with
  | .ref n, [] => (match S[n]? with
    | some (.lst xs) => (xs[xs.length - 1]?).bind fun y => some (.d y, S.set n (.lst xs.dropLast))
    | _ => none)
  | _, _ => none
theorem DRs.dropLast {K : PySem.W.Frag} {H : Hp} {m : Mp} {xs : List D} {vs : List V} (h : DRs K H m xs vs) : DRs K H m xs.dropLast vs.dropLast := by
  rw [List.dropLast_eq_take, List.dropLast_eq_take, DRs.length h]
  exact h.take _
theorem mm_pop : MtMM X "list" "list.pop" gPop := by
  refine ⟨_, mt_pop, fun H S m x v rl r _ e => tyV_list rl r e, fun H S m x v ws vs w S' Q rl r rs e k => ?_⟩
  unfold gPop at e
  split at e
  · rename_i n
    split at e
    · rename_i xs h2
      obtain ⟨y, h4, e⟩ := bind_some e
      cases e
      obtain ⟨a, us, rfl, hn, ha, hd⟩ := ref_ok h2 rl r
      unfold WRs at rs
      subst rs
      obtain ⟨z, h5, h6⟩ := hd.get h4
      exact ⟨a, us, z, rfl, rfl, ha, by rw [DRs.length hd]; exact h5, k _ m _ (rl.write hn ha hd.dropLast) (gr_write rl hn ha) (DR.gr (gr_write rl hn ha) h6)⟩
    · cases e
  · cases e
/-- xs.extend(ys) -/
def gExtend : W → List W → Sto → Option (W × Sto) := fun x ws S => match x, ws with
  | .ref n, [w] => (match S[n]? with
    | some (.lst xs) => (W.listT S w).bind fun ys => if xs.length + ys.length ≤ sizeLine then some (.d .non, S.set n (.lst (xs ++ ys))) else none
    | _ => none)
  | _, _ => none
theorem mm_extend : MtMM X "list" "list.extend" gExtend := by
  refine ⟨_, mt_extend, fun H S m x v rl r _ e => tyV_list rl r e, fun H S m x v ws vs w S' Q rl r rs e k => ?_⟩
  unfold gExtend at e
  split at e
  · rename_i n w1
    split at e
    · rename_i xs h2
      obtain ⟨ys, h4, e⟩ := bind_some e
      split at e
      · rename_i hz
        cases e
        obtain ⟨a, us, rfl, hn, ha, hd⟩ := ref_ok h2 rl r
        obtain ⟨u, rfl, ru⟩ := WRs.one rs
        obtain ⟨b, zs, rfl, hb, hd2⟩ := W.listT_ok h4 rl ru
        exact ⟨a, b, us, zs, rfl, rfl, ha, hb, by rw [DRs.length hd, DRs.length hd2]; exact hz, k _ m _ (rl.write hn ha (hd.append hd2)) (gr_write rl hn ha) WR.non⟩
      · cases e
    · cases e
  · cases e

/-! ### targets -/
abbrev MG := W → Env → Sto → Option (Env × Sto)
abbrev MGs := List W → Env → Sto → Option (Env × Sto)
def tMG (K : PySem.W.Frag) (f : MG) : TG := fun v σ H Q => ∃ env S m w env' S', ER K H m env σ ∧ Rel K H m S ∧ WR K H m w v ∧ f w env S = some (env', S') ∧ ∀ σ' H' m', ER K H' m' env' σ' → Rel K H' m' S' → Gr K H m H' m' → Q σ' H'
def tMGs (K : PySem.W.Frag) (f : MGs) : TGs := fun v σ H Q => ∃ env S m w env' S', ER K H m env σ ∧ Rel K H m S ∧ WRs K H m w v ∧ f w env S = some (env', S') ∧ ∀ σ' H' m', ER K H' m' env' σ' → Rel K H' m' S' → Gr K H m H' m' → Q σ' H'
theorem PG.imp {t t' : TG} (h : PG X e t) (k : ∀ v σ H Q, t' v σ H Q → t v σ H Q) : PG X e t' := ⟨fun pins s σ H v u Q I r q => h.run pins s σ H v u Q I r (k v σ H Q q)⟩
theorem PGs.imp {t t' : TGs} (h : PGs X es t) (k : ∀ v σ H Q, t' v σ H Q → t v σ H Q) : PGs X es t' := ⟨fun pins s σ H v u Q I r q => h.run pins s σ H v u Q I r (k v σ H Q q)⟩
theorem ER.set {K : PySem.W.Frag} {H : Hp} {m : Mp} {env : Env} {σ : St} {i : Nat} {w : W} {v : V} (er : ER K H m env σ) (r : WR K H m w v) : ER K H m (env.set i (some w)) (σ.set i (some v)) := by
  refine ⟨by simp [er.len], fun j z e => ?_⟩
  by_cases c : i = j
  · subst c
    have hl : i < env.length := by have := (List.getElem?_eq_some_iff.mp e).1; simpa using this
    rw [List.getElem?_set_self hl] at e
    cases e
    exact ⟨v, by rw [List.getElem?_set_self (by rw [← er.len]; exact hl)], r⟩
  · rw [List.getElem?_set_ne c] at e ⊢
    exact er.val j z e
theorem ER.none {K : PySem.W.Frag} {H : Hp} {m : Mp} {env : Env} {σ : St} {i : Nat} (er : ER K H m env σ) : ER K H m (env.set i none) (σ.set i none) := by
  refine ⟨by simp [er.len], fun j z e => ?_⟩
  by_cases c : i = j
  · subst c
    have hl : i < env.length := by have := (List.getElem?_eq_some_iff.mp e).1; simpa using this
    rw [List.getElem?_set_self hl] at e
    cases e
  · rw [List.getElem?_set_ne c] at e ⊢
    exact er.val j z e
def mgName (i : Nat) : MG := fun w env S => some (env.set i (some w), S)
theorem mg_name {i : Nat} (h : PG X e (gName i)) : PG X e (tMG X.K (mgName i)) := PG.imp h fun v σ H Q ⟨env, S, m, w, env', S', er, rl, r, he, k⟩ => by
  cases he
  exact k _ H m (er.set r) rl .refl
def mgNil : MGs := fun ws env S => match ws with
  | [] => some (env, S)
  | _ => none
def mgCons (f : MG) (g : MGs) : MGs := fun ws env S => match ws with
  | w :: r => (f w env S).bind fun p => g r p.1 p.2
  | [] => none
theorem mgs_nil : PGs X [] (tMGs X.K mgNil) := PGs.imp pgs_nil fun v σ H Q ⟨env, S, m, w, env', S', er, rl, r, he, k⟩ => by
  unfold mgNil at he
  split at he
  · cases he
    exact ⟨r, k σ H m er rl .refl⟩
  · cases he
theorem mgs_cons {f : MG} {g : MGs} (h1 : PG X e (tMG X.K f)) (h2 : PGs X es (tMGs X.K g)) (hs : (assignEach (e :: es) X.env).map (·.2) = assign e X.env :: (assignEach es X.env).map (·.2) := by rfl) : PGs X (e :: es) (tMGs X.K (mgCons f g)) :=
  PGs.imp (pgs_cons h1 h2 hs) fun v σ H Q ⟨env, S, m, w, env', S', er, rl, r, he, k⟩ => by
    unfold mgCons at he
    split at he
    · rename_i w1 ws
      obtain ⟨⟨env1, S1⟩, h3, he⟩ := bind_some he
      obtain ⟨v1, vs, rfl, r1, r2⟩ := r
      refine ⟨v1, vs, rfl, env, S, m, w1, env1, S1, er, rl, r1, h3, fun σ1 H1 m1 er1 rl1 g1 => ?_⟩
      exact ⟨env1, S1, m1, ws, env', S', er1, rl1, r2.gr g1, he, fun σ' H' m' er' rl' g' => k σ' H' m' er' rl' (g1.trans g')⟩
    · cases he
theorem DRs.ws {K : PySem.W.Frag} {H : Hp} {m : Mp} : ∀ {xs : List D} {vs : List V}, DRs K H m xs vs → WRs K H m (xs.map W.d) vs
  | [], vs, h => by unfold DRs at h; subst h; rfl
  | x :: xs, vs, h => by
    unfold DRs at h
    obtain ⟨v, vs', rfl, h1, h2⟩ := h
    exact ⟨v, vs', rfl, h1, DRs.ws h2⟩
def mgTup (n : Nat) (g : MGs) : MG := fun w env S => (W.tup w).bind fun xs => if xs.length = n then g (xs.map W.d) env S else none
theorem mg_tup {k n : Nat} {g : MGs} (hc : X.calm = true) (h : PGs X es (tMGs X.K g)) (hn : (assignEach es X.env).length = n := by rfl) (hst : (assignEach es X.env).findIdx? (·.1) = none := by rfl) : PG X (.Tuple es k pos) (tMG X.K (mgTup n g)) :=
  PG.imp (pg_tup hc h hn hst) fun v σ H Q ⟨env, S, m, w, env', S', er, rl, r, he, k⟩ => by
    unfold mgTup at he
    obtain ⟨xs, h1, he⟩ := bind_some he
    split at he
    · rename_i hl
      obtain ⟨a, vs, rfl, h2, h3⟩ := W.tup_ok h1 r
      exact ⟨a, vs, rfl, h2, by rw [DRs.length h3]; exact hl, env, S, m, _, env', S', er, rl, DRs.ws h3, he, k⟩
    · cases he
/-- xs[i] = .. -/
def mgSub (fo fi : ME) : MG := fun w env S => (fo env S).bind fun p => (fi env p.2).bind fun q => match p.1, q.1 with
  | .ref n, .d (.int k) => (match give [w] q.2 with
    | some ([d], S1) => (match S1[n]? with
      | some (.lst xs) => (ixN xs.length k).bind fun j => some (env, S1.set n (.lst (xs.set j d)))
      | _ => none)
    | _ => none)
  | _, _ => none
theorem mg_sub {i : Expr} (ho : PE X o (tM X.K fo)) (hi : PE X i (tM X.K fi))
    (ha : ∀ v, assign (.Subscript o i pos) X.env v = (do
      let ov ← holding [v] (eval o X.env)
      let iv ← holding [v, ov] (eval i X.env)
      standAt pos
      holding [v, ov, iv] (setItem ov iv v)
      release [v, ov, iv] []) := by intro _; rfl) : PG X (.Subscript o i pos) (tMG X.K (mgSub fo fi)) :=
  PG.imp (pg_sub ho hi set_list ha) fun v σ H Q ⟨env, S, m, w, env', S', er, rl, r, he, k⟩ => by
    unfold mgSub at he
    obtain ⟨⟨w1, S1⟩, h1, he⟩ := bind_some he
    obtain ⟨⟨w2, S2⟩, h2, he⟩ := bind_some he
    refine ⟨env, S, m, w1, S1, er, rl, h1, fun H1 m1 x rl1 g1 r1 => ⟨env, S1, m1, w2, S2, er.gr g1, rl1, h2, fun H2 m2 y rl2 g2 r2 => ?_⟩⟩
    have g12 := g1.trans g2
    split at he
    · rename_i n kk e1 e2
      have e1 : w1 = .ref n := e1
      have e2 : w2 = .d (.int kk) := e2
      subst e1 e2
      split at he
      · rename_i d S3 h3
        obtain ⟨m3, rl3, g3, r3⟩ := give_ok h3 rl2 (show WRs X.K H2 m2 [w] [v] from ⟨v, [], rfl, r.gr g12, rfl⟩)
        split at he
        · rename_i xs h4
          obtain ⟨j, h5, he⟩ := bind_some he
          cases he
          obtain ⟨a, us, rfl, hn, ha, hd⟩ := ref_ok h4 rl3 ((r1.gr g2).gr g3)
          unfold DRs at r3
          obtain ⟨z, zs, e3, r3, r4⟩ := r3
          cases e3
          unfold WR DR at r2
          subst r2
          have g4 := gr_write (xs' := us.set j v) rl3 hn ha
          exact ⟨a, us, kk, j, rfl, rfl, ha, by rw [DRs.length hd]; exact h5, k σ _ m3 (((er.gr g12).gr g3).gr g4) (rl3.write hn ha (hd.set j r3)) ((g12.trans g3).trans g4)⟩
        · cases he
      · cases he
    · cases he

/-! ### statements -/
variable {st : Stmt} {rest : List Stmt} {s1 s2 : MS} {t : MB}
theorem FlP.gr {K : PySem.W.Frag} {H H1 : Hp} {m m1 : Mp} {D : Ends} {r : Fl} (g : Gr K H m H1 m1) (h : FlP K H m D r) : FlP K H1 m1 D r := by
  cases r with
  | nx e S => exact fun σ' H' m' er rl g' => h σ' H' m' er rl (g.trans g')
  | rt w S => exact fun H' m' v rl g' => h H' m' v rl (g.trans g')
  | bk e S => exact fun σ' H' m' er rl g' => h σ' H' m' er rl (g.trans g')
  | ct e S => exact fun σ' H' m' er rl g' => h σ' H' m' er rl (g.trans g')
def sNil : MS := fun env S => some (.nx env S)
def sSeq (f g : MS) : MS := fun env S => (f env S).bind fun r => match r with
  | .nx e S1 => g e S1
  | r => some r
theorem mss_nil : PSs X [] (tMS X.K sNil) := PSs.imp pss_nil fun D σ H ⟨env, S, m, r, er, rl, he, k⟩ => by
  cases he
  exact k σ H m er rl .refl
theorem mss_cons (h1 : PS X st (tMS X.K s1)) (h2 : PSs X rest (tMS X.K s2)) : PSs X (st :: rest) (tMS X.K (sSeq s1 s2)) := PSs.imp (pss_cons h1 h2) fun D σ H ⟨env, S, m, r, er, rl, he, k⟩ => by
  unfold sSeq at he
  obtain ⟨r1, h3, he⟩ := bind_some he
  refine ⟨env, S, m, r1, er, rl, h3, ?_⟩
  cases r1 with
  | nx e S1 => exact fun σ1 H1 m1 er1 rl1 g1 => ⟨e, S1, m1, r, er1, rl1, he, k.gr g1⟩
  | rt w S1 => cases he; exact k
  | bk e S1 => cases he; exact k
  | ct e S1 => cases he; exact k
theorem mss_one (h1 : PS X st (tMS X.K s1)) : PSs X [st] (tMS X.K s1) := pss_one h1
def sBk : MS := fun env S => some (.bk env S)
def sCt : MS := fun env S => some (.ct env S)
def sNo : MS := fun _ _ => none
theorem ms_pass : PS X (.Pass pos) (tMS X.K sNil) := PS.imp ps_pass fun D σ H ⟨env, S, m, r, er, rl, he, k⟩ => by
  cases he
  exact k σ H m er rl .refl
theorem ms_break : PS X (.Break pos) (tMS X.K sBk) := PS.imp ps_break fun D σ H ⟨env, S, m, r, er, rl, he, k⟩ => by
  cases he
  exact k σ H m er rl .refl
theorem ms_continue : PS X (.Continue pos) (tMS X.K sCt) := PS.imp ps_continue fun D σ H ⟨env, S, m, r, er, rl, he, k⟩ => by
  cases he
  exact k σ H m er rl .refl
/-- code that is never reached -/
theorem ms_never : PS X st (tMS X.K sNo) := PS.imp ps_never fun D σ H ⟨env, S, m, r, er, rl, he, k⟩ => by cases he
def sExpr (f : ME) : MS := fun env S => (f env S).bind fun p => some (.nx env p.2)
theorem ms_expr (he : PE X e (tM X.K f)) (hs : swapsWith e none pos.line X.env = pure false := by rfl) : PS X (.Expr e pos) (tMS X.K (sExpr f)) := PS.imp (ps_expr he hs) fun D σ H ⟨env, S, m, r, er, rl, he, k⟩ => by
  unfold sExpr at he
  obtain ⟨⟨w, S1⟩, h1, he⟩ := bind_some he
  cases he
  exact ⟨env, S, m, w, S1, er, rl, h1, fun H1 m1 v rl1 g1 r1 => k σ H1 m1 (er.gr g1) rl1 g1⟩
def sRet (f : ME) : MS := fun env S => (f env S).bind fun p => some (.rt p.1 p.2)
theorem ms_ret (he : PE X e (tM X.K f)) : PS X (.Return (some e) pos) (tMS X.K (sRet f)) := PS.imp (ps_ret he) fun D σ H ⟨env, S, m, r, er, rl, he, k⟩ => by
  unfold sRet at he
  obtain ⟨⟨w, S1⟩, h1, he⟩ := bind_some he
  cases he
  exact ⟨env, S, m, w, S1, er, rl, h1, fun H1 m1 v rl1 g1 r1 => k H1 m1 v rl1 g1 r1⟩
def sIf (t : MB) (f g : MS) : MS := fun env S => (t env S).bind fun p => if p.1 then f env p.2 else g env p.2
theorem ms_if {c : Expr} {u v : List Stmt} (hc : PT X c (tMB X.K t)) (ha : PSs X u (tMS X.K s1)) (hb : PSs X v (tMS X.K s2)) : PS X (.If c u v pos) (tMS X.K (sIf t s1 s2)) := PS.imp (ps_if hc ha hb) fun D σ H ⟨env, S, m, r, er, rl, he, k⟩ => by
  unfold sIf at he
  obtain ⟨⟨b, S1⟩, h1, he⟩ := bind_some he
  refine ⟨env, S, m, b, S1, er, rl, h1, fun H1 m1 rl1 g1 => ?_⟩
  cases b with
  | true =>
    rw [if_pos rfl]
    exact ⟨env, S1, m1, r, er.gr g1, rl1, by simpa using he, k.gr g1⟩
  | false =>
    rw [if_neg (by decide)]
    exact ⟨env, S1, m1, r, er.gr g1, rl1, by simpa using he, k.gr g1⟩
def sAsg (f : ME) (g : MG) : MS := fun env S => (f env S).bind fun p => (g p.1 env p.2).bind fun q => some (.nx q.1 q.2)
theorem tAsg_of {g : MG} {te : TE} {tg : TG} (hf : ∀ σ H Q, tM X.K f σ H Q → te σ H Q) (hg : ∀ v σ H Q, tMG X.K g v σ H Q → tg v σ H Q) (D : Ends) (σ : St) (H : Hp) (h : tMS X.K (sAsg f g) D σ H) : tAsg te tg D σ H := by
  obtain ⟨env, S, m, r, er, rl, he, k⟩ := h
  unfold sAsg at he
  obtain ⟨⟨w, S1⟩, h1, he⟩ := bind_some he
  obtain ⟨⟨env2, S2⟩, h2, he⟩ := bind_some he
  cases he
  exact hf _ _ _ ⟨env, S, m, w, S1, er, rl, h1, fun H1 m1 v rl1 g1 r1 => hg _ _ _ _ ⟨env, S1, m1, w, env2, S2, er.gr g1, rl1, r1, h2, fun σ' H' m' er' rl' g' => k σ' H' m' er' rl' (g1.trans g')⟩⟩
theorem ms_asg {tg : Expr} {g : MG} (he : PE X e (tM X.K f)) (hg : PG X tg (tMG X.K g)) (hs : swapsWithSole [tg] e pos.line X.env = pure false := by rfl) (hw : swappedStores [tg] e X.env = pure none := by rfl)
    (h1 : (assignEach [tg] X.env).map (·.2) = [assign tg X.env] := by rfl) : PS X (.Assign [tg] e pos) (tMS X.K (sAsg f g)) := PS.imp (ps_asg he hg hs hw h1) (tAsg_of (fun _ _ _ h => h) fun _ _ _ _ h => h)
/-- a, b = x, y -/
def sPar (i j : Nat) (ga : MA) : MS := fun env S => (ga env S).bind fun p => match p.1 with
  | [v, w] => some (.nx ((env.set i (some v)).set j (some w)) p.2)
  | _ => none
theorem ms_par {i j : Nat} (h : PS X st (tPar i j (tMA X.K ga))) : PS X st (tMS X.K (sPar i j ga)) := PS.imp h fun D σ H ⟨env, S, m, r, er, rl, he, k⟩ => by
  unfold sPar at he
  obtain ⟨⟨ws, S1⟩, h1, he⟩ := bind_some he
  split at he
  · rename_i v w e0
    have e0 : ws = [v, w] := e0
    subst e0
    cases he
    refine ⟨env, S, m, _, S1, er, rl, h1, fun H1 m1 vs rl1 g1 r1 => ?_⟩
    obtain ⟨x, y, rfl, rx, ry⟩ := WRs.two r1
    exact ⟨x, y, rfl, k _ H1 m1 (((er.gr g1).set rx).set ry) rl1 g1⟩
  · cases he
def sPar3 (i j l : Nat) (ga : MA) : MS := fun env S => (ga env S).bind fun p => match p.1 with
  | [v, w, z] => some (.nx (((env.set i (some v)).set j (some w)).set l (some z)) p.2)
  | _ => none
theorem ms_par3 {i j l : Nat} (h : PS X st (tPar3 i j l (tMA X.K ga))) : PS X st (tMS X.K (sPar3 i j l ga)) := PS.imp h fun D σ H ⟨env, S, m, r, er, rl, he, k⟩ => by
  unfold sPar3 at he
  obtain ⟨⟨ws, S1⟩, h1, he⟩ := bind_some he
  split at he
  · rename_i v w z e0
    have e0 : ws = [v, w, z] := e0
    subst e0
    cases he
    refine ⟨env, S, m, _, S1, er, rl, h1, fun H1 m1 vs rl1 g1 r1 => ?_⟩
    obtain ⟨x, vs', rfl, rx, r2⟩ := r1
    obtain ⟨y, u, e3, ry, rz⟩ := WRs.two r2
    subst e3
    exact ⟨x, y, u, rfl, k _ H1 m1 ((((er.gr g1).set rx).set ry).set rz) rl1 g1⟩
  · cases he
/-- x += e, whole numbers -/
def sAug (i : Nat) (g : Int → Int → Int) (f : ME) : MS := fun env S => match env[i]? with
  | some (some (.d (.int x))) => (f env S).bind fun p => match p.1 with
    | .d (.int y) => some (.nx (env.set i (some (.d (.int (g x y))))) p.2)
    | _ => none
  | _ => none
theorem ms_aug {i : Nat} {g : Int → Int → Int} (h : PS X st (tAug i (tM X.K f) (ipI g))) : PS X st (tMS X.K (sAug i g f)) := PS.imp h fun D σ H ⟨env, S, m, r, er, rl, he, k⟩ => by
  unfold sAug at he
  split at he
  · rename_i x e0
    obtain ⟨⟨w, S1⟩, h1, he⟩ := bind_some he
    split at he
    · rename_i y e1
      have e1 : w = .d (.int y) := e1
      subst e1
      cases he
      obtain ⟨v, e2, r2⟩ := er.val i _ e0
      unfold WR DR at r2
      subst r2
      refine ⟨_, e2, env, S, m, _, S1, er, rl, h1, fun H1 m1 u rl1 g1 r1 => ?_⟩
      unfold WR DR at r1
      exact ⟨x, y, rfl, r1, k _ H1 m1 ((er.gr g1).set WR.int) rl1 g1⟩
    · cases he
  · cases he

/-! ### while -/
def whileM (t : MB) (b : MS) : Nat → MS
  | 0 => fun _ _ => none
  | n + 1 => fun env S => (t env S).bind fun p => if p.1 then (b env p.2).bind fun r => (match r with
    | .nx e S2 => whileM t b n e S2
    | .ct e S2 => whileM t b n e S2
    | .bk e S2 => some (.nx e S2)
    | .rt w S2 => some (.rt w S2)) else some (.nx env p.2)
def sWhile (fuel : Env → Sto → Nat) (t : MB) (b : MS) : MS := fun env S => whileM t b (fuel env S) env S
theorem ms_while (fuel : Env → Sto → Nat) {c : Expr} {body : List Stmt} (hp : PassesOwn (model X.prog X.w) X.A X.env X.xe) (hc : PT X c (tMB X.K t)) (hb : PSs X body (tMS X.K s1)) : PS X (.While c body [] pos) (tMS X.K (sWhile fuel t s1)) :=
  PS.imp (ps_while hp hc hb) fun D σ H ⟨env, S, m, r, er, rl, he, k⟩ => by
    refine ⟨fun n σ H => tMS X.K (whileM t s1 n) D σ H, ⟨fuel env S, env, S, m, r, er, rl, he, k⟩, fun n σ H h => ?_⟩
    obtain ⟨env, S, m, r, er, rl, he, k⟩ := h
    cases n with
    | zero => cases he
    | succ n =>
      unfold whileM at he
      obtain ⟨⟨b, S1⟩, h1, he⟩ := bind_some he
      refine ⟨env, S, m, b, S1, er, rl, h1, fun H1 m1 rl1 g1 => ?_⟩
      cases b with
      | false =>
        rw [if_neg (by decide)]
        simp at he
        subst he
        exact k σ H1 m1 (er.gr g1) rl1 g1
      | true =>
        rw [if_pos rfl]
        simp only [if_true] at he
        obtain ⟨r1, h2, he⟩ := bind_some he
        refine ⟨fun σ' H' => tMS X.K (whileM t s1 n) D σ' H', fun σ' H' h' => ⟨n, Nat.lt_succ_self n, h'⟩, env, S1, m1, r1, er.gr g1, rl1, h2, ?_⟩
        cases r1 with
        | nx e S2 => exact fun σ2 H2 m2 er2 rl2 g2 => ⟨e, S2, m2, r, er2, rl2, he, k.gr (g1.trans g2)⟩
        | ct e S2 => exact fun σ2 H2 m2 er2 rl2 g2 => ⟨e, S2, m2, r, er2, rl2, he, k.gr (g1.trans g2)⟩
        | bk e S2 => cases he; exact FlP.gr g1 k
        | rt w S2 => cases he; exact FlP.gr g1 k
end
end MW
end
section
set_option maxRecDepth 100000
/-! MW, part f: for, comprehensions. -/
namespace MW
open PySem PySem.Spec L2

mutual
def D.beq : D → D → Bool
  | .non, .non => true
  | .bl a, .bl b => a == b
  | .int a, .int b => a == b
  | .str a, .str b => a == b
  | .tup a, .tup b => D.beqs a b
  | .lst a, .lst b => D.beqs a b
  | _, _ => false
def D.beqs : List D → List D → Bool
  | [], [] => true
  | x :: xs, y :: ys => D.beq x y && D.beqs xs ys
  | _, _ => false
end
mutual
theorem D.beq_refl : ∀ x : D, D.beq x x = true
  | .non => rfl
  | .bl _ => by simp [D.beq]
  | .int _ => by simp [D.beq]
  | .str _ => by simp [D.beq]
  | .tup xs => by simp [D.beq, D.beqs_refl xs]
  | .lst xs => by simp [D.beq, D.beqs_refl xs]
theorem D.beqs_refl : ∀ xs : List D, D.beqs xs xs = true
  | [] => rfl
  | x :: xs => by simp [D.beqs, D.beq_refl x, D.beqs_refl xs]
end
mutual
theorem D.beq_eq : ∀ {x y : D}, D.beq x y = true → x = y
  | .non, y, h => by cases y <;> simp_all [D.beq]
  | .bl _, y, h => by cases y <;> simp_all [D.beq]
  | .int _, y, h => by cases y <;> simp_all [D.beq]
  | .str _, y, h => by cases y <;> simp_all [D.beq]
  | .tup xs, y, h => by
    cases y with
    | tup ys => simp only [D.beq] at h; rw [D.beqs_eq h]
    | _ => simp [D.beq] at h
  | .lst xs, y, h => by
    cases y with
    | lst ys => simp only [D.beq] at h; rw [D.beqs_eq h]
    | _ => simp [D.beq] at h
theorem D.beqs_eq : ∀ {xs ys : List D}, D.beqs xs ys = true → xs = ys
  | [], ys, h => by cases ys <;> simp_all [D.beqs]
  | x :: xs, ys, h => by
    cases ys with
    | nil => simp [D.beqs] at h
    | cons y ys =>
      simp only [D.beqs, Bool.and_eq_true] at h
      rw [D.beq_eq h.1, D.beqs_eq h.2]
end

/-! ### what is walked -/
/-- the items; a list of the own store that must stand as it is meanwhile -/
structure Wk where
  its : List D
  chk : Option (Nat × List D)
def Wk.ok (k : Wk) (S : Sto) : Bool := match k.chk with
  | none => true
  | some (n, xs) => match S[n]? with
    | some (.lst ys) => D.beqs ys xs
    | _ => false
abbrev MI := Env → Sto → Option (Wk × Sto)
structure Walks (K : PySem.W.Frag) (J : It) (k : Wk) (H0 : Hp) (m0 : Mp) : Prop where
  go : ∀ i H m S, Rel K H m S → Gr K H0 m0 H m → k.ok S = true → i < k.its.length → J.go i H
  yld : ∀ i H m S v H' x, Rel K H m S → Gr K H0 m0 H m → k.ok S = true → k.its[i]? = some x → J.yld i H v H' → Rel K H' m S ∧ Gr K H m H' m ∧ DR K H' m x v
  stop : ∀ H m S, Rel K H m S → Gr K H0 m0 H m → k.ok S = true → J.stop k.its.length H
def tMI (K : PySem.W.Frag) (f : MI) : TI := fun σ H R => ∃ env S m w S', ER K H m env σ ∧ Rel K H m S ∧ f env S = some (w, S') ∧ ∀ H' m' J, Rel K H' m' S' → Gr K H m H' m' → Walks K J w H' m' → R J H'
section
variable {X : Cx} {tg e a b : Expr} {es : List Expr} {fa fb f : ME} {ga : MA} {pos : Pos}
theorem PI.imp {t t' : TI} (h : PI X tg e t) (k : ∀ σ H R, t' σ H R → t σ H R) : PI X tg e t' := ⟨fun pins s σ H R I q => h.run pins s σ H R I (k σ H R q)⟩
def W.lock (w : W) (xs : List D) : Option (Nat × List D) := match w with
  | .ref n => some (n, xs)
  | _ => none
/-- a list that is read again and again -/
theorem list_stays {K : PySem.W.Frag} {H0 : Hp} {m0 : Mp} {S0 : Sto} {w : W} {v : V} {xs : List D} {chk : Option (Nat × List D)} (e : W.list S0 w = some xs) (hk : chk = w.lock xs) (rl : Rel K H0 m0 S0) (r : WR K H0 m0 w v) :
    ∃ a, v = .ref a ∧ ∀ H m S, Rel K H m S → Gr K H0 m0 H m → Wk.ok ⟨xs, chk⟩ S = true → ∃ vs, SqL K H a vs ∧ DRs K H m xs vs := by
  obtain ⟨a, vs, rfl, h1, h2⟩ := W.list_ok e rl r
  refine ⟨a, rfl, fun H m S rl' g hc => ?_⟩
  have e' : W.list S w = some xs := by
    cases w with
    | d x => cases x <;> exact e
    | scr ns => exact e
    | ref n =>
      subst hk
      have hc : (match S[n]? with | some (.lst ys) => D.beqs ys xs | _ => false) = true := hc
      unfold W.list
      cases q : S[n]? with
      | none => rw [q] at hc; cases hc
      | some o =>
        cases o with
        | dead => rw [q] at hc; cases hc
        | lst ys =>
          rw [q] at hc
          show (match S[n]? with | some (.lst xs) => some xs | _ => none) = some xs
          rw [q, ← D.beqs_eq hc]
  obtain ⟨b, us, e2, h3, h4⟩ := W.list_ok e' rl' (r.gr g)
  cases e2
  exact ⟨us, h3, h4⟩
def wkL (S : Sto) (w : W) : Option Wk := (W.list S w).bind fun xs => some ⟨xs, w.lock xs⟩
def miList (f : ME) : MI := fun env S => (f env S).bind fun p => (wkL p.2 p.1).bind fun k => some (k, p.2)
theorem walks_list {K : PySem.W.Frag} {H0 : Hp} {m0 : Mp} {S0 : Sto} {w : W} {v : V} {k : Wk} (e : wkL S0 w = some k) (rl : Rel K H0 m0 S0) (r : WR K H0 m0 w v) : ∃ a, v = .ref a ∧ (∃ xs, SqL K H0 a xs) ∧ Walks K (Itl K a) k H0 m0 := by
  unfold wkL at e
  obtain ⟨xs, h1, e⟩ := bind_some e
  cases e
  obtain ⟨a, rfl, st⟩ := list_stays h1 rfl rl r
  obtain ⟨a', vs, e2, h2, h3⟩ := W.list_ok h1 rl r
  cases e2
  refine ⟨a, rfl, ⟨vs, h2⟩, ⟨fun i H m S rl g hc hi => ?_, fun i H m S v H' x rl g hc hx y => ?_, fun H m S rl g hc => ?_⟩⟩
  · obtain ⟨vs, q1, q2⟩ := st H m S rl g hc
    have hi' : i < vs.length := by rw [DRs.length q2]; exact hi
    exact ⟨vs, vs[i], q1, by simp [hi']⟩
  · obtain ⟨vs, q1, q2⟩ := st H m S rl g hc
    obtain ⟨rfl, y⟩ := y
    obtain ⟨u, q3, q4⟩ := q2.get hx
    have := y vs q1
    rw [q3] at this
    cases this
    exact ⟨rl, .refl, q4⟩
  · obtain ⟨vs, q1, q2⟩ := st H m S rl g hc
    exact ⟨vs, q1, by rw [DRs.length q2]; exact Nat.le_refl _⟩
theorem mi_list (h : PE X e (tM X.K f)) : PI X tg e (tMI X.K (miList f)) := PI.imp (pi_list h) fun σ H R ⟨env, S, m, w, S', er, rl, he, k⟩ => by
  unfold miList at he
  obtain ⟨⟨w1, S1⟩, h1, he⟩ := bind_some he
  obtain ⟨kk, h2, he⟩ := bind_some he
  cases he
  refine ⟨env, S, m, w1, _, er, rl, h1, fun H1 m1 v rl1 g1 r1 => ?_⟩
  obtain ⟨a, rfl, h3, h4⟩ := walks_list h2 rl1 r1
  exact ⟨a, rfl, h3, k H1 m1 _ rl1 g1 h4⟩
def miTup (f : ME) : MI := fun env S => (f env S).bind fun p => (W.tup p.1).bind fun xs => some (⟨xs, none⟩, p.2)
theorem mi_tup (h : PE X e (tM X.K f)) : PI X tg e (tMI X.K (miTup f)) := PI.imp (pi_tup h) fun σ H R ⟨env, S, m, w, S', er, rl, he, k⟩ => by
  unfold miTup at he
  obtain ⟨⟨w1, S1⟩, h1, he⟩ := bind_some he
  obtain ⟨xs, h2, he⟩ := bind_some he
  cases he
  refine ⟨env, S, m, w1, _, er, rl, h1, fun H1 m1 v rl1 g1 r1 => ?_⟩
  obtain ⟨a, vs, rfl, h3, h4⟩ := W.tup_ok h2 r1
  refine ⟨a, rfl, ⟨vs, h3⟩, k H1 m1 _ rl1 g1 ⟨fun i H m S rl g hc hi => ?_, fun i H m S v H' x rl g hc hx y => ?_, fun H m S rl g hc => ?_⟩⟩
  · have hi' : i < vs.length := by rw [DRs.length h4]; exact hi
    exact ⟨vs, vs[i], g.tup a vs h3, by simp [hi']⟩
  · obtain ⟨rfl, y⟩ := y
    obtain ⟨u, q3, q4⟩ := (DRs.gr g h4).get hx
    have := y vs (g.tup a vs h3)
    rw [q3] at this
    cases this
    exact ⟨rl, .refl, q4⟩
  · exact ⟨vs, g.tup a vs h3, by rw [DRs.length h4]; exact Nat.le_refl _⟩
/-- whole numbers from lo on -/
def upFrom (lo : Int) (n : Nat) : List D := (List.range n).map fun (i : Nat) => D.int (lo + (i : Int))
theorem walks_range {K : PySem.W.Frag} {H0 : Hp} {m0 : Mp} (lo : Int) (n : Nat) : Walks K (Itr lo n) ⟨upFrom lo n, none⟩ H0 m0 := by
  refine ⟨fun i H m S rl g hc hi => ?_, fun i H m S v H' x rl g hc hx y => ?_, fun H m S rl g hc => ?_⟩
  · show i < n
    simpa [upFrom] using hi
  · obtain ⟨rfl, rfl⟩ := y
    have : x = .int (lo + (i : Int)) := by
      simp only [upFrom] at hx
      rw [List.getElem?_map] at hx
      cases q : (List.range n)[i]? with
      | none => rw [q] at hx; cases hx
      | some j =>
        rw [q] at hx
        have := List.getElem?_eq_some_iff.mp q
        obtain ⟨h1, h2⟩ := this
        simp at h2
        subst h2
        exact (Option.some.inj hx).symm
    subst this
    exact ⟨rl, .refl, DR.int _ _ _ _⟩
  · show n ≤ (upFrom lo n).length
    simp [upFrom]
def miRange1 (ga : MA) : MI := fun env S => (ga env S).bind fun p => match p.1 with
  | [.d (.int j)] => if -(2 ^ 62) ≤ j ∧ j < 2 ^ 62 then some (⟨upFrom 0 j.toNat, none⟩, p.2) else none
  | _ => none
theorem mi_range1 {p : Pos} (hg : Gl X "range") (hm : X.mg "range" = none) (ha : PA X [a] (tMA X.K ga)) (hs : starEach [a] X.env = [(false, eval a X.env)] := by rfl) : PI X tg (.Call (.Name "range" p) [a] [] pos) (tMI X.K (miRange1 ga)) :=
  PI.imp (pi_range1 hg hm ha hs) fun σ H R ⟨env, S, m, w, S', er, rl, he, k⟩ => by
    unfold miRange1 at he
    obtain ⟨⟨ws, S1⟩, h1, he⟩ := bind_some he
    split at he
    · rename_i j e0
      have e0 : ws = [.d (.int j)] := e0
      subst e0
      split at he
      · rename_i hz
        cases he
        refine ⟨env, S, m, _, _, er, rl, h1, fun H1 m1 vs rl1 g1 r1 => ?_⟩
        obtain ⟨v, rfl, r2⟩ := WRs.one r1
        unfold WR DR at r2
        subst r2
        exact ⟨j, rfl, hz.1, hz.2, k H1 m1 _ rl1 g1 (walks_range 0 _)⟩
      · cases he
    · cases he
def miRange2 (ga : MA) : MI := fun env S => (ga env S).bind fun p => match p.1 with
  | [.d (.int i), .d (.int j)] => if -(2 ^ 62) ≤ i ∧ i < 2 ^ 62 ∧ -(2 ^ 62) ≤ j ∧ j < 2 ^ 62 then some (⟨upFrom i (j - i).toNat, none⟩, p.2) else none
  | _ => none
theorem mi_range2 {p : Pos} (hg : Gl X "range") (hm : X.mg "range" = none) (ha : PA X [a, b] (tMA X.K ga)) (hs : starEach [a, b] X.env = [(false, eval a X.env), (false, eval b X.env)] := by rfl) (hs2 : starEach [b] X.env = [(false, eval b X.env)] := by rfl) :
    PI X tg (.Call (.Name "range" p) [a, b] [] pos) (tMI X.K (miRange2 ga)) :=
  PI.imp (pi_range2 hg hm ha hs hs2) fun σ H R ⟨env, S, m, w, S', er, rl, he, k⟩ => by
    unfold miRange2 at he
    obtain ⟨⟨ws, S1⟩, h1, he⟩ := bind_some he
    split at he
    · rename_i i j e0
      have e0 : ws = [.d (.int i), .d (.int j)] := e0
      subst e0
      split at he
      · rename_i hz
        cases he
        refine ⟨env, S, m, _, _, er, rl, h1, fun H1 m1 vs rl1 g1 r1 => ?_⟩
        obtain ⟨v, u, rfl, r2, r3⟩ := WRs.two r1
        unfold WR DR at r2 r3
        subst r2 r3
        exact ⟨i, j, rfl, hz, k H1 m1 _ rl1 g1 (walks_range i _)⟩
      · cases he
    · cases he
/-- enumerate(xs) -/
def pairUp (lo : Nat) : List D → List D
  | [] => []
  | x :: xs => .tup [.int lo, x] :: pairUp (lo + 1) xs
theorem pairUp_length (lo : Nat) (xs : List D) : (pairUp lo xs).length = xs.length := by
  induction xs generalizing lo with
  | nil => rfl
  | cons x xs ih => simp [pairUp, ih]
theorem pairUp_get (xs : List D) : ∀ (lo i : Nat), (pairUp lo xs)[i]? = (xs[i]?).map fun x => D.tup [.int ((lo + i : Nat) : Int), x] := by
  induction xs with
  | nil => intro lo i; simp [pairUp]
  | cons x xs ih =>
    intro lo i
    cases i with
    | zero => simp [pairUp]
    | succ i =>
      simp only [pairUp, List.getElem?_cons_succ]
      rw [ih]
      have : lo + 1 + i = lo + (i + 1) := by omega
      rw [this]
def miEnum (ga : MA) : MI := fun env S => (ga env S).bind fun p => match p.1 with
  | [w] => (wkL p.2 w).bind fun k => some (⟨pairUp 0 k.its, k.chk⟩, p.2)
  | _ => none
theorem fresh_pair {K : PySem.W.Frag} {H : Hp} {m : Mp} {S : Sto} {T : Addr} {x y : D} {u v : V} (rl : Rel K H m S) (hT : H T = none) (r1 : DR K H m x u) (r2 : DR K H m y v) :
    Rel K (upd H T (.tup [u, v])) m S ∧ Gr K H m (upd H T (.tup [u, v])) m ∧ DR K (upd H T (.tup [u, v])) m (.tup [x, y]) (.ref T) := by
  have g : Gr K H m (upd H T (.tup [u, v])) m := .fresh hT
  refine ⟨rl.fresh hT, g, ?_⟩
  unfold DR
  exact ⟨T, _, rfl, SqT.of upd_same, DRs.gr g (DRs.cons r1 (DRs.one r2))⟩
theorem mi_enum {p tpos : Pos} {elts : List Expr} {kk : Nat} (hg : Gl X "enumerate") (hm : X.mg "enumerate" = none) (ha : PA X [e] (tMA X.K ga)) (hs : starEach [e] X.env = [(false, eval e X.env)] := by rfl) :
    PI X (.Tuple elts kk tpos) (.Call (.Name "enumerate" p) [e] [] pos) (tMI X.K (miEnum ga)) :=
  PI.imp (pi_enum hg hm ha hs) fun σ H R ⟨env, S, m, w, S', er, rl, he, k⟩ => by
    unfold miEnum at he
    obtain ⟨⟨ws, S1⟩, h1, he⟩ := bind_some he
    split at he
    · rename_i w1 e0
      have e0 : ws = [w1] := e0
      subst e0
      obtain ⟨kk, h2, he⟩ := bind_some he
      cases he
      refine ⟨env, S, m, _, _, er, rl, h1, fun H1 m1 vs rl1 g1 r1 => ?_⟩
      obtain ⟨v, rfl, r2⟩ := WRs.one r1
      unfold wkL at h2
      obtain ⟨xs, h3, h2⟩ := bind_some h2
      cases h2
      obtain ⟨a, rfl, st⟩ := list_stays h3 rfl rl1 r2
      obtain ⟨a', us, e2, h4, h5⟩ := W.list_ok h3 rl1 r2
      cases e2
      refine ⟨a, us, rfl, h4, k H1 m1 _ rl1 g1 ⟨fun i H m S rl g hc hi => ?_, fun i H m S v H' x rl g hc hx y => ?_, fun H m S rl g hc => ?_⟩⟩
      · obtain ⟨vs, q1, q2⟩ := st H m S rl g hc
        have hi' : i < vs.length := by
          rw [DRs.length q2]
          have : i < (pairUp 0 xs).length := hi
          rw [pairUp_length] at this
          exact this
        exact ⟨vs, vs[i], q1, by simp [hi']⟩
      · obtain ⟨vs, q1, q2⟩ := st H m S rl g hc
        obtain ⟨T, z, rfl, hT, rfl, y⟩ := y
        have hx : (pairUp 0 xs)[i]? = some x := hx
        rw [pairUp_get] at hx
        cases q : xs[i]? with
        | none => rw [q] at hx; cases hx
        | some x0 =>
          rw [q] at hx
          have hx := Option.some.inj hx
          subst hx
          obtain ⟨u, q3, q4⟩ := q2.get q
          have := y vs q1
          rw [q3] at this
          cases this
          rw [Nat.zero_add]
          exact fresh_pair rl hT (DR.int _ _ _ _) q4
      · obtain ⟨vs, q1, q2⟩ := st H m S rl g hc
        refine ⟨vs, q1, ?_⟩
        show vs.length ≤ (pairUp 0 xs).length
        rw [pairUp_length, DRs.length q2]
        exact Nat.le_refl _
    · cases he
/-- zip(xs, ys), two lists -/
def zipD : List D → List D → List D
  | x :: xs, y :: ys => .tup [x, y] :: zipD xs ys
  | _, _ => []
theorem zipD_length : ∀ (xs ys : List D), (zipD xs ys).length = min xs.length ys.length
  | [], _ => by simp [zipD]
  | _ :: _, [] => by simp [zipD]
  | x :: xs, y :: ys => by
    have := zipD_length xs ys
    simp only [zipD, List.length_cons]
    omega
theorem zipD_get : ∀ (xs ys : List D) (i : Nat) (z : D), (zipD xs ys)[i]? = some z → ∃ x y, xs[i]? = some x ∧ ys[i]? = some y ∧ z = .tup [x, y]
  | [], _, _, _, h => by simp [zipD] at h
  | _ :: _, [], _, _, h => by simp [zipD] at h
  | x :: xs, y :: ys, 0, z, h => by simp [zipD] at h; exact ⟨x, y, rfl, rfl, h.symm⟩
  | x :: xs, y :: ys, i + 1, z, h => by
    obtain ⟨a, b, h1, h2, h3⟩ := zipD_get xs ys i z (by simpa [zipD] using h)
    exact ⟨a, b, by simpa using h1, by simpa using h2, h3⟩
/-- two lists that nobody changes, or two tuples -/
def pureL : W → Bool
  | .ref _ => false
  | _ => true
def miZip (ga : MA) : MI := fun env S => (ga env S).bind fun p => match p.1 with
  | [w, z] => if pureL w = true ∧ pureL z = true then (match W.list p.2 w, W.list p.2 z with
    | some xs, some ys => some (⟨zipD xs ys, none⟩, p.2)
    | _, _ => (W.tup w).bind fun xs => (W.tup z).bind fun ys => some (⟨zipD xs ys, none⟩, p.2)) else none
  | _ => none
theorem list_pure {K : PySem.W.Frag} {H0 : Hp} {m0 : Mp} {S0 : Sto} {w : W} {v : V} {xs : List D} (e : W.list S0 w = some xs) (hp : pureL w = true) (rl : Rel K H0 m0 S0) (r : WR K H0 m0 w v) :
    ∃ a, v = .ref a ∧ ∀ H m S, Rel K H m S → Gr K H0 m0 H m → ∃ vs, SqL K H a vs ∧ DRs K H m xs vs := by
  obtain ⟨a, h1, h2⟩ := list_stays (chk := none) e (by cases w <;> first | rfl | cases hp) rl r
  exact ⟨a, h1, fun H m S rl g => h2 H m S rl g rfl⟩
theorem mi_zip {e2 : Expr} {p tpos : Pos} {elts : List Expr} {kk : Nat} (hg : Gl X "zip") (hm : X.mg "zip" = none) (ha : PA X [e, e2] (tMA X.K ga))
    (hs : starEach [e, e2] X.env = (false, eval e X.env) :: starEach [e2] X.env := by rfl) (hpl : (backTo pos (starEach [e2] X.env)).any (·.1) = false := by rfl) :
    PI X (.Tuple elts kk tpos) (.Call (.Name "zip" p) [e, e2] [] pos) (tMI X.K (miZip ga)) :=
  PI.imp (RZ.pi_zipA hg hm ha hs hpl) fun σ H R ⟨env, S, m, w, S', er, rl, he, k⟩ => by
    unfold miZip at he
    obtain ⟨⟨ws, S1⟩, h1, he⟩ := bind_some he
    split at he
    · rename_i w1 w2 e0
      have e0 : ws = [w1, w2] := e0
      subst e0
      split at he
      · rename_i hp
        refine ⟨env, S, m, _, _, er, rl, h1, fun H1 m1 vs rl1 g1 r1 => ?_⟩
        obtain ⟨v, u, rfl, r2, r3⟩ := WRs.two r1
        split at he
        · rename_i xs ys h2 h3
          cases he
          obtain ⟨a, rfl, st⟩ := list_pure h2 hp.1 rl1 r2
          obtain ⟨b, rfl, st2⟩ := list_pure h3 hp.2 rl1 r3
          obtain ⟨vs, q1, q2⟩ := st H1 m1 S1 rl1 .refl
          obtain ⟨us, q3, q4⟩ := st2 H1 m1 S1 rl1 .refl
          refine ⟨a, b, vs, us, rfl, .inl ⟨q1, q3, k H1 m1 _ rl1 g1 ⟨fun i H m S rl g hc hi => ?_, fun i H m S v H' x rl g hc hx y => ?_, fun H m S rl g hc => ?_⟩⟩⟩
          · obtain ⟨vs, q1, q2⟩ := st H m S rl g
            obtain ⟨us, q3, q4⟩ := st2 H m S rl g
            have hi : i < (zipD xs ys).length := hi
            rw [zipD_length] at hi
            have h1 : i < vs.length := by rw [DRs.length q2]; omega
            have h2 : i < us.length := by rw [DRs.length q4]; omega
            exact ⟨vs, us, vs[i], us[i], q1, q3, by simp [h1], by simp [h2]⟩
          · obtain ⟨vs, q1, q2⟩ := st H m S rl g
            obtain ⟨us, q3, q4⟩ := st2 H m S rl g
            obtain ⟨x0, y0, z1, z2, rfl⟩ := zipD_get xs ys i x hx
            obtain ⟨T, a1, b1, rfl, hT, rfl, y1, y2⟩ := y
            obtain ⟨c1, c2, c3⟩ := q2.get z1
            obtain ⟨d1, d2, d3⟩ := q4.get z2
            have t1 := y1 vs q1
            have t2 := y2 us q3
            rw [c2] at t1; rw [d2] at t2
            cases t1; cases t2
            exact fresh_pair rl hT c3 d3
          · obtain ⟨vs, q1, q2⟩ := st H m S rl g
            obtain ⟨us, q3, q4⟩ := st2 H m S rl g
            refine ⟨vs, us, q1, q3, ?_⟩
            show vs.length ≤ (zipD xs ys).length ∨ us.length ≤ (zipD xs ys).length
            rw [zipD_length, DRs.length q2, DRs.length q4]
            omega
        · obtain ⟨xs, h2, he⟩ := bind_some he
          obtain ⟨ys, h3, he⟩ := bind_some he
          cases he
          obtain ⟨a, vs, rfl, q1, q2⟩ := W.tup_ok h2 r2
          obtain ⟨b, us, rfl, q3, q4⟩ := W.tup_ok h3 r3
          refine ⟨a, b, vs, us, rfl, .inr ⟨q1, q3, k H1 m1 _ rl1 g1 ⟨fun i H m S rl g hc hi => ?_, fun i H m S v H' x rl g hc hx y => ?_, fun H m S rl g hc => ?_⟩⟩⟩
          · have hi : i < (zipD xs ys).length := hi
            rw [zipD_length] at hi
            have h1 : i < vs.length := by rw [DRs.length q2]; omega
            have h2 : i < us.length := by rw [DRs.length q4]; omega
            exact ⟨vs, us, vs[i], us[i], g.tup _ _ q1, g.tup _ _ q3, by simp [h1], by simp [h2]⟩
          · obtain ⟨x0, y0, z1, z2, rfl⟩ := zipD_get xs ys i x hx
            obtain ⟨T, a1, b1, rfl, hT, rfl, y1, y2⟩ := y
            obtain ⟨c1, c2, c3⟩ := (DRs.gr g q2).get z1
            obtain ⟨d1, d2, d3⟩ := (DRs.gr g q4).get z2
            have t1 := y1 vs (g.tup _ _ q1)
            have t2 := y2 us (g.tup _ _ q3)
            rw [c2] at t1; rw [d2] at t2
            cases t1; cases t2
            exact fresh_pair rl hT c3 d3
          · refine ⟨vs, us, g.tup _ _ q1, g.tup _ _ q3, ?_⟩
            show vs.length ≤ (zipD xs ys).length ∨ us.length ≤ (zipD xs ys).length
            rw [zipD_length, DRs.length q2, DRs.length q4]
            omega
      · cases he
    · cases he

/-! ### for -/
def forM (k : Wk) (g : MG) (b : MS) : List D → MS
  | [] => fun env S => if k.ok S = true then some (.nx env S) else none
  | x :: xs => fun env S => if k.ok S = true then (g (.d x) env S).bind fun p => (b p.1 p.2).bind fun r => (match r with
    | .nx e S2 => forM k g b xs e S2
    | .ct e S2 => forM k g b xs e S2
    | .bk e S2 => some (.nx e S2)
    | .rt w S2 => some (.rt w S2)) else none
def sFor (f : MI) (g : MG) (b : MS) : MS := fun env S => (f env S).bind fun p => forM p.1 g b p.1.its env p.2
theorem ms_for {iter : Expr} {body : List Stmt} {fi : MI} {g : MG} {s1 : MS} (hp : PassesOwn (model X.prog X.w) X.A X.env X.xe) (hc : X.calm = true) (hi : PI X tg iter (tMI X.K fi)) (hg : PG X tg (tMG X.K g)) (hb : PSs X body (tMS X.K s1)) (hfs : ∀ x, foldedSetIterable iter X.env x = pure x := by intro _; rfl) :
    PS X (.For tg iter body [] pos) (tMS X.K (sFor fi g s1)) :=
  PS.imp (ps_for hp hc hi hg hb hfs) fun D σ H ⟨env, S, m, r, er, rl, he, k⟩ => by
    unfold sFor at he
    obtain ⟨⟨w, S1⟩, h1, he⟩ := bind_some he
    refine ⟨env, S, m, w, S1, er, rl, h1, fun H1 m1 J rl1 g1 wk => ?_⟩
    refine ⟨fun i n σ H => n = w.its.length - i ∧ i ≤ w.its.length ∧ ∃ env S m r, ER X.K H m env σ ∧ Rel X.K H m S ∧ forM w g s1 (w.its.drop i) env S = some r ∧ FlP X.K H m D r ∧ Gr X.K H1 m1 H m,
      ⟨_, rfl, Nat.zero_le _, env, S1, m1, r, er.gr g1, rl1, by simpa using he, k.gr g1, .refl⟩, ?_⟩
    rintro i n σ H ⟨rfl, hi, env, S, m, r, er, rl, he, k, gg⟩
    by_cases hlt : i < w.its.length
    · obtain ⟨x, hx⟩ : ∃ x, w.its[i]? = some x := ⟨w.its[i], by simp [hlt]⟩
      have hd : w.its.drop i = x :: w.its.drop (i + 1) := by
        rw [List.drop_eq_getElem_cons hlt]
        rw [List.getElem?_eq_getElem hlt] at hx
        rw [Option.some.inj hx]
      rw [hd] at he
      unfold forM at he
      split at he
      · rename_i hc
        obtain ⟨⟨env2, S2⟩, h2, he⟩ := bind_some he
        obtain ⟨r2, h3, he⟩ := bind_some he
        refine .inr ⟨wk.go i H m S rl gg hc hlt, fun σ' H' => ∃ n', n' = w.its.length - (i + 1) ∧ i + 1 ≤ w.its.length ∧ ∃ env S m r, ER X.K H' m env σ' ∧ Rel X.K H' m S ∧ forM w g s1 (w.its.drop (i + 1)) env S = some r ∧ FlP X.K H' m D r ∧ Gr X.K H1 m1 H' m,
          fun σ' H' ⟨n', q⟩ => ⟨n', by omega, q⟩, fun v H' y => ?_⟩
        obtain ⟨rl', g', rx⟩ := wk.yld i H m S v H' x rl gg hc hx y
        refine ⟨env, S, m, .d x, env2, S2, er.gr g', rl', rx, h2, fun σ2 H2 m2 er2 rl2 g2 => ?_⟩
        have g02 := (gg.trans g').trans g2
        have k2 := FlP.gr (g'.trans g2) k
        refine ⟨env2, S2, m2, r2, er2, rl2, h3, ?_⟩
        cases r2 with
        | nx e S3 => exact fun σ3 H3 m3 er3 rl3 g3 => ⟨_, rfl, by omega, e, S3, m3, r, er3, rl3, he, k2.gr g3, g02.trans g3⟩
        | ct e S3 => exact fun σ3 H3 m3 er3 rl3 g3 => ⟨_, rfl, by omega, e, S3, m3, r, er3, rl3, he, k2.gr g3, g02.trans g3⟩
        | bk e S3 => cases he; exact k2
        | rt w S3 => cases he; exact k2
      · cases he
    · have e : i = w.its.length := by omega
      subst e
      rw [List.drop_length] at he
      unfold forM at he
      split at he
      · rename_i hc
        cases he
        exact .inl ⟨wk.stop H m S rl gg hc, k σ H m er rl .refl⟩
      · cases he

/-! ### comprehensions -/
/-- a comprehension's target: a name's slot, or a tuple of slots -/
inductive CT where
  | nm (i : Nat) | tp (is : List Nat)
def cTs : List Nat → TGs
  | [] => gNil
  | i :: is => gCons (gName i) (cTs is)
def cT (K : PySem.W.Frag) : CT → TG
  | .nm i => gName i
  | .tp is => gTup K is.length (cTs is)
def setAll : List Nat → List D → Env → Option Env
  | [], [], env => some env
  | i :: is, x :: xs, env => setAll is xs (env.set i (some (.d x)))
  | _, _, _ => none
def CT.set : CT → D → Env → Option Env
  | .nm i, x, env => some (env.set i (some (.d x)))
  | .tp is, .tup xs, env => setAll is xs env
  | .tp _, _, _ => none
def CT.in (vs : List Nat) : CT → Bool
  | .nm i => vs.contains i
  | .tp is => is.all fun i => vs.contains i
def wipeE (env : Env) : List Nat → Env
  | [] => env
  | v :: vs => (wipeE env vs).set v none
theorem ER.wipe {K : PySem.W.Frag} {H : Hp} {m : Mp} {env : Env} {σ : St} (er : ER K H m env σ) : ∀ vs : List Nat, ER K H m (wipeE env vs) (L2.wipe σ vs)
  | [] => er
  | v :: vs => (ER.wipe er vs).none
theorem wipe_set {σ : St} {i : Nat} {v : Option V} : ∀ {vs : List Nat}, i ∈ vs → L2.wipe (σ.set i v) vs = L2.wipe σ vs
  | [], h => nomatch h
  | j :: vs, h => by
    show (L2.wipe (σ.set i v) vs).set j none = (L2.wipe σ vs).set j none
    by_cases c : i ∈ vs
    · rw [wipe_set c]
    · have e : i = j := by
        rcases List.mem_cons.mp h with e | e
        · exact e
        · exact absurd e c
      subst e
      have key : ∀ (us : List Nat), i ∉ us → L2.wipe (σ.set i v) us = (L2.wipe σ us).set i v := by
        intro us
        induction us with
        | nil => intro _; rfl
        | cons u us ih =>
          intro hu
          show (L2.wipe (σ.set i v) us).set u none = ((L2.wipe σ us).set u none).set i v
          rw [ih (fun z => hu (List.mem_cons_of_mem _ z)), List.set_comm _ _ (fun z => hu (by rw [z]; exact List.mem_cons_self))]
      rw [key vs c, List.set_set]
theorem wipe_wipe {σ : St} : ∀ {us vs : List Nat}, (∀ u ∈ us, u ∈ vs) → L2.wipe (L2.wipe σ us) vs = L2.wipe σ vs
  | [], _, _ => rfl
  | u :: us, vs, h => by
    show L2.wipe ((L2.wipe σ us).set u none) vs = _
    rw [wipe_set (h u List.mem_cons_self)]
    exact wipe_wipe fun z hz => h z (List.mem_cons_of_mem _ hz)
theorem cTs_ok {K : PySem.W.Frag} {H : Hp} {m : Mp} {vs : List Nat} : ∀ {is : List Nat} {xs : List D} {us : List V} {env env' : Env} {σ : St} {Q : St → Hp → Prop}, setAll is xs env = some env' → (is.all fun i => vs.contains i) = true → ER K H m env σ → DRs K H m xs us →
    (∀ σ', ER K H m env' σ' → L2.wipe σ' vs = L2.wipe σ vs → Q σ' H) → cTs is us σ H Q
  | [], [], us, env, env', σ, Q, e, hv, er, r, k => by
    cases e
    unfold DRs at r
    exact ⟨r, k σ er rfl⟩
  | i :: is, x :: xs, us, env, env', σ, Q, e, hv, er, r, k => by
    unfold DRs at r
    obtain ⟨v, us', rfl, r1, r2⟩ := r
    rw [List.all_cons, Bool.and_eq_true] at hv
    refine ⟨v, us', rfl, ?_⟩
    refine cTs_ok (vs := vs) e hv.2 (er.set (w := .d x) (show WR K H m (.d x) v from r1)) r2 fun σ' er' hw => k σ' er' (hw.trans (wipe_set (by simpa using hv.1)))
  | [], _ :: _, _, _, _, _, _, e, _, _, _, _ => by cases e
  | _ :: _, [], _, _, _, _, _, e, _, _, _, _ => by cases e
theorem cT_ok {K : PySem.W.Frag} {H : Hp} {m : Mp} {vs : List Nat} {t : CT} {x : D} {v : V} {env env' : Env} {σ : St} {Q : St → Hp → Prop} (e : t.set x env = some env') (hv : t.in vs = true) (er : ER K H m env σ) (r : DR K H m x v)
    (k : ∀ σ', ER K H m env' σ' → L2.wipe σ' vs = L2.wipe σ vs → Q σ' H) : cT K t v σ H Q := by
  cases t with
  | nm i =>
    cases e
    exact k _ (er.set (w := .d x) (show WR K H m (.d x) v from r)) (wipe_set (by simpa [CT.in] using hv))
  | tp is =>
    cases x with
    | tup xs =>
      unfold DR at r
      obtain ⟨a, us, rfl, h1, h2⟩ := r
      have hl : ∀ {is : List Nat} {xs : List D} {env env' : Env}, setAll is xs env = some env' → xs.length = is.length := by
        intro is
        induction is with
        | nil => intro xs env env' e; cases xs with | nil => rfl | cons _ _ => cases e
        | cons i is ih => intro xs env env' e; cases xs with | nil => cases e | cons x xs => simp [ih (xs := xs) e]
      exact ⟨a, us, rfl, h1, by rw [DRs.length h2]; exact hl e, cTs_ok e hv er h2 k⟩
    | _ => cases e
/-- [e for t in items if c] -/
def lcM (k : Wk) (t : CT) (c : MB) (e : ME) (env : Env) : List D → List D → Sto → Option (List D × Sto)
  | [], acc, S => if k.ok S = true then some (acc, S) else none
  | x :: xs, acc, S => if k.ok S = true then (t.set x env).bind fun env1 => (c env1 S).bind fun p => if p.1 = true then
      (e env1 p.2).bind fun q => (give [q.1] q.2).bind fun r => if acc.length < sizeLine then lcM k t c e env xs (acc ++ r.1) r.2 else none
    else lcM k t c e env xs acc p.2 else none
def mLc (mk : Mk) (fi : MI) (t : CT) (c : MB) (e : ME) (vs : List Nat) : ME := fun env S => if t.in vs = true then (fi env S).bind fun p => (lcM p.1 t c e (wipeE env vs) p.1.its [] p.2).bind fun q => some (newL mk q.1 q.2) else none
theorem lc_of {K : PySem.W.Frag} {mk : Mk} {fi : MI} {t : CT} {c : MB} {f : ME} {vs : List Nat} {σ : St} {H : Hp} {Q : VK} (h : tM K (mLc mk fi t c f vs) σ H Q) : tLc (tMI K fi) (cT K t) (tMB K c) (tM K f) vs σ H Q := by
  obtain ⟨env, S, m, w, S', er, rl, he, k⟩ := h
  unfold mLc at he
  split at he
  · rename_i hin
    obtain ⟨⟨wk, S1⟩, h1, he⟩ := bind_some he
    obtain ⟨⟨ds, S2⟩, h2, he⟩ := bind_some he
    have he := Option.some.inj he
    refine ⟨env, S, m, wk, S1, er, rl, h1, fun H1 m1 J rl1 g1 wj DD hD => ?_⟩
    have gD : Gr K H1 m1 (upd H1 DD (.lst [])) (m1.guard DD) := gr_guard rl1 hD
    have er1 : ER K (upd H1 DD (.lst [])) (m1.guard DD) (wipeE env vs) (L2.wipe σ vs) := ((er.gr g1).wipe vs).gr gD
    have nN : ¬ m1.N DD := (rl1.free hD).2
    refine ⟨fun i n H => n = wk.its.length - i ∧ i ≤ wk.its.length ∧ ∃ S m acc us, ER K H m (wipeE env vs) (L2.wipe σ vs) ∧ Rel K H m S ∧ Gr K H1 m1 H m ∧ H DD = some (.lst us) ∧ m.N DD ∧ DRs K H m acc us ∧ lcM wk t c f (wipeE env vs) (wk.its.drop i) acc S = some (ds, S2),
      ⟨_, rfl, Nat.zero_le _, S1, m1.guard DD, [], [], er1, rl1.guard hD, gD, upd_same, .inr rfl, DRs.nil, by simpa using h2⟩, ?_⟩
    rintro i n H2 ⟨rfl, hi, T, m2, acc, us, er2, rl2, g2, hDD, hN, racc, h3⟩
    by_cases hlt : i < wk.its.length
    · obtain ⟨x, hx⟩ : ∃ x, wk.its[i]? = some x := ⟨wk.its[i], by simp [hlt]⟩
      have hd : wk.its.drop i = x :: wk.its.drop (i + 1) := by
        rw [List.drop_eq_getElem_cons hlt]
        rw [List.getElem?_eq_getElem hlt] at hx
        rw [Option.some.inj hx]
      rw [hd] at h3
      unfold lcM at h3
      split at h3
      · rename_i hc
        obtain ⟨env1, h4, h3⟩ := bind_some h3
        obtain ⟨⟨b, S3⟩, h5, h3⟩ := bind_some h3
        refine .inr ⟨wj.go i H2 m2 T rl2 g2 hc hlt, fun H' => ∃ n', n' = wk.its.length - (i + 1) ∧ i + 1 ≤ wk.its.length ∧ ∃ S m acc us, ER K H' m (wipeE env vs) (L2.wipe σ vs) ∧ Rel K H' m S ∧ Gr K H1 m1 H' m ∧ H' DD = some (.lst us) ∧ m.N DD ∧ DRs K H' m acc us ∧ lcM wk t c f (wipeE env vs) (wk.its.drop (i + 1)) acc S = some (ds, S2),
          fun H' ⟨n', q⟩ => ⟨n', by omega, q⟩, fun v H' y => ?_⟩
        obtain ⟨rl', g', rx⟩ := wj.yld i H2 m2 T v H' x rl2 g2 hc hx y
        refine cT_ok h4 hin (er2.gr g') rx fun σ' er' hw => ⟨hw.trans (wipe_wipe fun _ z => z), ?_⟩
        refine ⟨env1, T, m2, b, S3, er', rl', h5, fun H3 m3 rl3 g3 => ?_⟩
        have g13 := (g2.trans g').trans g3
        have g23 := g'.trans g3
        have hD3 := g23.prot DD us hDD hN
        cases b with
        | false =>
          refine iteF ?_
          exact ⟨_, rfl, by omega, S3, m3, acc, us, er2.gr g23, rl3, g13, hD3, g23.sub _ hN, DRs.gr g23 racc, by simpa using h3⟩
        | true =>
          refine iteT ?_
          simp only [if_true] at h3
          obtain ⟨⟨w1, S4⟩, h6, h3⟩ := bind_some h3
          obtain ⟨⟨zs, S5⟩, h7, h3⟩ := bind_some h3
          split at h3
          · rename_i hz
            refine ⟨env1, S3, m3, w1, S4, er'.gr g3, rl3, h6, fun H4 m4 v1 rl4 g4 r4 => ?_⟩
            obtain ⟨m5, rl5, g5, r5⟩ := give_ok h7 rl4 (show WRs K H4 m4 [w1] [v1] from ⟨v1, [], rfl, r4, rfl⟩)
            have g25 := (g23.trans g4).trans g5
            have g15 := (g13.trans g4).trans g5
            have hD5 := g25.prot DD us hDD hN
            have hN5 := g25.sub _ hN
            refine ⟨us, hD5, by rw [DRs.length racc]; exact hz, _, rfl, by omega, S5, m5, acc ++ zs, us ++ [v1], ?_, rl5.guarded hN5 hD5, g15.guarded hD hD5, upd_same, hN5, DRs.guarded hN5 hD5 ((DRs.gr g25 racc).append r5), h3⟩
            have er5 := er2.gr g25
            refine ⟨er5.len, fun j z e => ?_⟩
            obtain ⟨u, q1, q2⟩ := er5.val j z e
            refine ⟨u, q1, ?_⟩
            cases z with
            | d x => exact DR.mv (fun _ _ z => SqT.written hD5 z) (fun a xs z k => lst_guarded hN5 a xs z k) q2
            | scr ns =>
              obtain ⟨a, e, q3⟩ := q2
              exact ⟨a, e, Fz.written hD5 q3⟩
            | ref n => exact q2
          · cases h3
      · cases h3
    · have e : i = wk.its.length := by omega
      subst e
      rw [List.drop_length] at h3
      unfold lcM at h3
      split at h3
      · rename_i hc
        obtain ⟨rfl, rfl⟩ : acc = ds ∧ T = S2 := by simpa using h3
        refine .inl ⟨wj.stop H2 m2 T rl2 g2 hc, ?_⟩
        cases mk with
        | pure =>
          cases he
          refine k H2 ⟨m2.l, m1.N⟩ _ (rl2.un g2.sub) (g1.trans g2.un) ?_
          unfold WR DR
          exact ⟨DD, us, rfl, hDD, ⟨fun z => rl2.no DD z hN, nN⟩, DRs.fewer (fun _ z => out_un g2.sub z) racc⟩
        | own =>
          cases he
          refine k H2 ⟨m2.l ++ [some DD], m1.N⟩ _ (rl2.unAdd g2.sub hN nN hDD racc) (g1.trans (g2.unAdd hD)) ⟨by simp [rl2.len], fun a e => ?_⟩
          rw [rl2.len] at e
          have e : (m2.l ++ [some DD])[m2.l.length]? = some (some a) := e
          rw [List.getElem?_append_right (Nat.le_refl _)] at e
          simp at e
          rw [e]
      · cases h3
  · cases he
end
end MW
end
section
set_option maxRecDepth 100000
/-! MW, part g: defs and their calls; the law's end. -/
namespace MW
open PySem PySem.Spec L2

/-! ### what a def gives -/
def startE (N : Nat) (ws : List W) : Env := ws.map some ++ List.replicate (N - ws.length) none
/-- what is handed back: new lists are given away (keep: they stay in the own store) -/
def fin (keep : Bool) (k : Nat) (w : W) (S : Sto) : Option (W × Sto) := if keep = true then some (w, S) else match w with
  | .ref n => if n < k then some (.ref n, S.take k) else (match S[n]? with
    | some (.lst xs) => some (.d (.lst xs), S.take k)
    | _ => none)
  | w => some (w, S.take k)
def runDef (N n : Nat) (keep : Bool) (body : MS) : List W → Sto → Option (W × Sto) := fun ws S => if ws.length = n then (body (startE N ws) S).bind fun r => (match r with
  | .nx _ S1 => some (.d .non, S1.take S.length)
  | .rt w S1 => fin keep S.length w S1
  | _ => none) else none
def spM (K : PySem.W.Frag) (F : List W → Sto → Option (W × Sto)) : Sp := fun vs H Q _ => ∃ ws S m w S', WRs K H m ws vs ∧ Rel K H m S ∧ F ws S = some (w, S') ∧ ∀ H' m' v, Rel K H' m' S' → Gr K H m H' m' → WR K H' m' w v → Q v H'
theorem WRs.length {K : PySem.W.Frag} {H : Hp} {m : Mp} : ∀ {ws : List W} {vs : List V}, WRs K H m ws vs → vs.length = ws.length
  | [], _, h => by unfold WRs at h; subst h; rfl
  | w :: ws, vs, h => by
    obtain ⟨v, vs', rfl, _, h2⟩ := h
    simp [WRs.length h2]
theorem WRs.get {K : PySem.W.Frag} {H : Hp} {m : Mp} : ∀ {ws : List W} {vs : List V} {i : Nat} {w : W}, WRs K H m ws vs → ws[i]? = some w → ∃ v, vs[i]? = some v ∧ WR K H m w v
  | [], _, _, _, _, e => by simp at e
  | w :: ws, vs, 0, x, h, e => by
    obtain ⟨v, vs', rfl, h1, h2⟩ := h
    simp at e; subst e
    exact ⟨v, rfl, h1⟩
  | w :: ws, vs, i + 1, x, h, e => by
    obtain ⟨v, vs', rfl, h1, h2⟩ := h
    obtain ⟨u, e1, r⟩ := WRs.get (i := i) h2 (by simpa using e)
    exact ⟨u, by simpa using e1, r⟩
theorem er_start {K : PySem.W.Frag} {H : Hp} {m : Mp} {ws : List W} {vs : List V} {N : List Str} (h : WRs K H m ws vs) : ER K H m (startE N.length ws) (L2.start N vs) := by
  have hl := WRs.length h
  refine ⟨by simp [startE, L2.start, hl], fun i w e => ?_⟩
  unfold startE at e
  by_cases c : i < (ws.map some).length
  · rw [List.getElem?_append_left c, List.getElem?_map] at e
    cases q : ws[i]? with
    | none => rw [q] at e; cases e
    | some z =>
      rw [q] at e
      cases e
      obtain ⟨v, e1, r⟩ := h.get q
      refine ⟨v, ?_, r⟩
      unfold L2.start
      rw [List.getElem?_append_left (by simpa [hl] using c), List.getElem?_map, e1]
      rfl
  · rw [List.getElem?_append_right (by omega)] at e
    have := List.mem_of_getElem? e
    rw [List.mem_replicate] at this
    cases this.2
theorem fin_ok {K : PySem.W.Frag} {H H' : Hp} {m m' : Mp} {S S' T : Sto} {keep : Bool} {w w' : W} {v : V} {Q : VK} (e : fin keep S.length w S' = some (w', T)) (rl : Rel K H m S) (rl' : Rel K H' m' S') (g : Gr K H m H' m') (r : WR K H' m' w v)
    (k : ∀ H' m' v, Rel K H' m' T → Gr K H m H' m' → WR K H' m' w' v → Q v H') : Q v H' := by
  unfold fin at e
  split at e
  · cases e
    exact k H' m' v rl' g r
  · have rt := rl'.take (k := S.length)
    have gt := g.take (k := S.length) rl.len
    split at e
    · rename_i n
      split at e
      · rename_i hn
        cases e
        refine k H' _ v rt gt ⟨?_, fun a h => r.2 a (take_get h)⟩
        show n < (m'.l.take S.length).length
        rw [List.length_take]
        have := r.1
        omega
      · rename_i hn
        split at e
        · rename_i xs e0
          cases e
          obtain ⟨a, vs, rfl, h1, h2, h3⟩ := ref_ok e0 rl' r
          exact k H' _ _ rt gt (left rl' (by omega) h1 h2 h3)
        · cases e
    · cases e
      refine k H' _ v rt gt ?_
      cases w with
      | d x => exact DR.fewer (fun _ z => out_take z) r
      | scr ns => exact r
      | ref n => rename_i hx; exact absurd rfl (hx n)
section
variable {P : Program} {w : World} {K : PySem.W.Frag} {mg : Str → Option Value} {base : Heap}
theorem def_ok {x qual : Str} {st : Stmt} {f : Addr} {fd : FuncData} {N ps : List Str} {k : Nat} {keep : Bool} {body : MS} (F : Fun K x qual st f fd) (sc : FnScope N ps (defScope st))
    (hb : ∀ (cdv : Value) (A : Around) (outer : List PySem.Env) (s : Shared) (H : Hp) (E : XK), Room k (A.deeper (PyProof.Rows.envOfC qual (defScope st) s.heap.objs.size f cdv)) → PSs (cxOf CX0 P w K mg base N qual (defScope st) f cdv A outer s H E).nox (defBody st) (tMS K body)) :
    FnOk P w K mg base CX0 (k + 1) f fd ps (spM K (runDef N.length ps.length keep body)) := by
  refine F.ok sc (fun vs H Q E h => ?_) (fun cdv A outer s H vs Q E hr h => ⟨_, hb cdv A outer s H E hr, ?_⟩)
  · obtain ⟨ws, S, m, w, S', r, rl, e, k⟩ := h
    unfold runDef at e
    split at e
    · rename_i hl
      rw [WRs.length r, hl]
    · cases e
  · obtain ⟨ws, S, m, w, S', r, rl, e, k⟩ := h
    unfold runDef at e
    split at e
    · rename_i hl
      obtain ⟨fl, h1, e⟩ := bind_some e
      refine ⟨startE N.length ws, S, m, fl, er_start r, rl, h1, ?_⟩
      cases fl with
      | nx en S1 =>
        cases e
        exact fun σ' H' m' er' rl' g' => k H' _ _ (rl'.take) (g'.take rl.len) WR.non
      | rt w1 S1 => exact fun H' m' v rl' g' r' => fin_ok e rl rl' g' r' k
      | bk _ _ => cases e
      | ct _ _ => cases e
    · cases e
end

/-! ### defs of data -/
mutual
def D.noLst : D → Bool
  | .lst _ => false
  | .tup xs => D.noLsts xs
  | _ => true
def D.noLsts : List D → Bool
  | [] => true
  | x :: xs => D.noLst x && D.noLsts xs
end
mutual
theorem DR.any {K : PySem.W.Frag} {H : Hp} {m m' : Mp} : ∀ {x : D} {v : V}, D.noLst x = true → DR K H m x v → DR K H m' x v
  | .non, _, _, h => h
  | .bl _, _, _, h => h
  | .int _, _, _, h => h
  | .str _, _, _, h => h
  | .tup xs, v, q, h => by
    unfold DR at h ⊢
    obtain ⟨a, vs, e, h1, h2⟩ := h
    exact ⟨a, vs, e, h1, DRs.any (by simpa [D.noLst] using q) h2⟩
  | .lst _, _, q, _ => by cases q
theorem DRs.any {K : PySem.W.Frag} {H : Hp} {m m' : Mp} : ∀ {xs : List D} {vs : List V}, D.noLsts xs = true → DRs K H m xs vs → DRs K H m' xs vs
  | [], _, _, h => h
  | x :: xs, vs, q, h => by
    simp only [D.noLsts, Bool.and_eq_true] at q
    unfold DRs at h ⊢
    obtain ⟨v, vs', e, h1, h2⟩ := h
    exact ⟨v, vs', e, DR.any q.1 h1, DRs.any q.2 h2⟩
end
def runPure (N n : Nat) (body : MS) : List D → Option D := fun ds => if ds.length = n then (body (startE N (ds.map W.d)) []).bind fun r => (match r with
  | .nx _ _ => some .non
  | .rt (.d x) _ => some x
  | .rt (.ref k) S => (match S[k]? with
    | some (.lst xs) => some (.lst xs)
    | _ => none)
  | _ => none) else none
/-- data of the arguments; is any of them a list of the own store? -/
def dats (S : Sto) : List W → Option (List D × Bool)
  | [] => some ([], true)
  | .d x :: ws => (dats S ws).bind fun p => some (x :: p.1, p.2)
  | .ref n :: ws => match S[n]? with
    | some (.lst xs) => (dats S ws).bind fun p => some (.lst xs :: p.1, false)
    | _ => none
  | .scr _ :: _ => none
def callP (F : List D → Option D) : List W → Sto → Option (W × Sto) := fun ws S => (dats S ws).bind fun p => (F p.1).bind fun x => if p.2 = true ∨ x.noLst = true then some (.d x, S) else none
theorem dats_ok {K : PySem.W.Frag} {H : Hp} {m : Mp} {S : Sto} (rl : Rel K H m S) : ∀ {ws : List W} {vs : List V} {ds : List D} {pure : Bool}, dats S ws = some (ds, pure) → WRs K H m ws vs →
    ∃ B : Addr → Prop, (pure = true → ∀ a, ¬ B a) ∧ (∀ a, B a → some a ∈ m.l) ∧ DRs K H ⟨[], fun a => (m.N a ∨ some a ∈ m.l) ∧ ¬ B a⟩ ds vs
  | [], vs, ds, pure, e, r => by
    cases e
    exact ⟨fun _ => False, fun _ _ z => z, fun _ z => z.elim, r⟩
  | .d x :: ws, vs, ds, pure, e, r => by
    unfold dats at e
    obtain ⟨⟨xs, p⟩, h1, e⟩ := bind_some e
    cases e
    obtain ⟨v, vs', rfl, r1, r2⟩ := r
    obtain ⟨B, b1, b2, b3⟩ := dats_ok rl h1 r2
    refine ⟨B, b1, b2, DRs.cons (DR.fewer (fun a h => ⟨List.not_mem_nil, fun z => ?_⟩) r1) b3⟩
    exact z.1.elim h.2 h.1
  | .ref n :: ws, vs, ds, pure, e, r => by
    unfold dats at e
    split at e
    · rename_i xs e0
      obtain ⟨⟨ys, p⟩, h1, e⟩ := bind_some e
      cases e
      obtain ⟨v, vs', rfl, r1, r2⟩ := r
      obtain ⟨B, b1, b2, b3⟩ := dats_ok rl h1 r2
      obtain ⟨a, us, rfl, h2, h3, h4⟩ := ref_ok e0 rl r1
      refine ⟨fun b => B b ∨ b = a, (fun z => Bool.noConfusion z), fun b h => ?_, DRs.cons ?_ ?_⟩
      · rcases h with h | h
        · exact b2 b h
        · rw [h]; exact List.mem_of_getElem? h2
      · unfold DR
        refine ⟨a, us, rfl, h3, ⟨List.not_mem_nil, fun z => z.2 (.inr rfl)⟩, DRs.fewer (fun b h => ⟨List.not_mem_nil, fun z => ?_⟩) h4⟩
        exact z.1.elim h.2 h.1
      · refine DRs.fewer (fun b h => ?_) b3
        refine ⟨List.not_mem_nil, fun z => h.2 ?_⟩
        have z : (m.N b ∨ some b ∈ m.l) ∧ ¬ (B b ∨ b = a) := z
        exact ⟨z.1, fun q => z.2 (Or.inl q)⟩
    · cases e
  | .scr _ :: _, _, _, _, e, _ => by cases e
theorem callP_sp {K : PySem.W.Frag} {F : List D → Option D} {vs : List V} {H : Hp} {Q : VK} {E : XK} (h : spM K (callP F) vs H Q E) :
    ∃ ds m x, DRs K H m ds vs ∧ Rel K H m [] ∧ F ds = some x ∧ ∀ H' m' v, Gr K H m H' m' → DR K H' m' x v → Q v H' := by
  obtain ⟨ws, S, m, w, S', r, rl, e, k⟩ := h
  unfold callP at e
  obtain ⟨⟨ds, pure⟩, h1, e⟩ := bind_some e
  obtain ⟨x, h2, e⟩ := bind_some e
  split at e
  · rename_i hx
    cases e
    obtain ⟨B, b1, b2, b3⟩ := dats_ok rl h1 r
    have hl : ∀ a, some a ∈ m.l → B a ∨ ¬ B a := fun a _ => Classical.em _
    refine ⟨ds, _, x, b3, ⟨rfl, fun i j a h => (by simp at h), fun n o a h => (by simp at h), fun a h => (nomatch h), fun a h => ?_⟩, h2, fun H' m' v g rx => ?_⟩
    · rcases h.1 with z | z
      · exact rl.nl a z
      · exact rl.mem z
    · have live : ∀ a xs, H a = some (.lst xs) → some a ∈ m.l → H' a = some (.lst xs) := fun a xs e hm => by
        rcases Classical.em (B a) with z | z
        · exact (g.lst a xs e ⟨List.not_mem_nil, fun q => q.2 z⟩).1
        · exact g.prot a xs e ⟨.inr hm, z⟩
      have hout : ∀ a xs, H a = some (.lst xs) → m.out a → H' a = some (.lst xs) ∧ m.out a := fun a xs e ho => ⟨(g.lst a xs e ⟨List.not_mem_nil, fun q => q.1.elim ho.2 ho.1⟩).1, ho⟩
      have gc : Gr K H m H' m := ⟨g.tup, hout, g.fz, Nat.le_refl _, fun _ _ _ q => q, fun _ q => q, fun a xs e hn => g.prot a xs e ⟨.inl hn, fun z => rl.no a (b2 a z) hn⟩⟩
      refine k H' m v ⟨rl.len, rl.nd, fun n o a q1 q2 => (rl.ob n o a q1 q2).gr gc fun b xs e q => live b xs q (by rw [← e]; exact List.mem_of_getElem? q2), rl.no, fun a hn => ?_⟩ gc ?_
      · obtain ⟨xs, q⟩ := rl.nl a hn
        exact ⟨xs, gc.prot a xs q hn⟩
      · rcases hx with hx | hx
        · refine DR.fewer (fun a ho => ?_) rx
          have : ¬ m'.N a := ho.2
          have nB := b1 hx a
          refine ⟨fun z => this (g.sub a ⟨.inr z, nB⟩), fun z => this (g.sub a ⟨.inl z, nB⟩)⟩
        · exact DR.any hx rx
  · cases e
section
variable {P : Program} {w : World} {K : PySem.W.Frag} {mg : Str → Option Value} {base : Heap}
theorem def_okP {x qual : Str} {st : Stmt} {f : Addr} {fd : FuncData} {N ps : List Str} {k : Nat} {body : MS} (F : Fun K x qual st f fd) (sc : FnScope N ps (defScope st))
    (hb : ∀ (cdv : Value) (A : Around) (outer : List PySem.Env) (s : Shared) (H : Hp) (E : XK), Room k (A.deeper (PyProof.Rows.envOfC qual (defScope st) s.heap.objs.size f cdv)) → PSs (cxOf CX0 P w K mg base N qual (defScope st) f cdv A outer s H E).nox (defBody st) (tMS K body)) :
    FnOk P w K mg base CX0 (k + 1) f fd ps (spM K (callP (runPure N.length ps.length body))) := by
  refine F.ok sc (fun vs H Q E h => ?_) (fun cdv A outer s H vs Q E hr h => ⟨_, hb cdv A outer s H E hr, ?_⟩)
  · obtain ⟨ds, m, y, r, rl, e, k⟩ := callP_sp h
    unfold runPure at e
    split at e
    · rename_i hl
      rw [DRs.length r, hl]
    · cases e
  · obtain ⟨ds, m, y, r, rl, e, k⟩ := callP_sp h
    unfold runPure at e
    split at e
    · rename_i hl
      obtain ⟨fl, h1, e⟩ := bind_some e
      refine ⟨startE N.length (ds.map W.d), [], m, fl, er_start (DRs.ws r), rl, h1, ?_⟩
      have h0 : 0 = m.l.length := rl.len
      cases fl with
      | nx en S1 =>
        cases e
        exact fun σ' H' m' er' rl' g' => k H' _ _ g' (DR.non K H' m')
      | rt w1 S1 =>
        refine fun H' m' v rl' g' r' => ?_
        cases w1 with
        | d z =>
          cases e
          exact k H' m' v g' r'
        | scr _ => cases e
        | ref n =>
          have e : (match S1[n]? with | some (.lst xs) => some (D.lst xs) | _ => none) = some y := e
          split at e
          · rename_i xs e0
            cases e
            obtain ⟨a, vs, rfl, q1, q2, q3⟩ := ref_ok e0 rl' r'
            exact k H' _ _ (g'.take h0) (left rl' (Nat.zero_le _) q1 q2 q3)
          · cases e
      | bk _ _ => cases e
      | ct _ _ => cases e
    · cases e
end

/-! ### calls -/
section
variable {X : Cx} {CX : CXT} {k : Nat} {f : Addr} {fd : FuncData} {ps ks : List Str} {x : Str} {p pos : Pos} {e : Expr} {es : List Expr} {kws : List Keyword} {ga gk : MA} {F : List W → Sto → Option (W × Sto)}
theorem sp_call {σ : St} {H : Hp} {Q : VK} {E : XK} (h : tM X.K (mCall F ga) σ H Q) : tCall (spM X.K F) [] E (tMA X.K ga) σ H Q := by
  obtain ⟨env, S, m, w, S', er, rl, he, k⟩ := h
  unfold mCall at he
  obtain ⟨⟨ws, S1⟩, h1, he⟩ := bind_some he
  refine ⟨env, S, m, ws, S1, er, rl, h1, fun H1 m1 vs rl1 g1 r1 => ?_⟩
  show spM X.K F (vs ++ []) H1 Q E
  rw [List.append_nil]
  exact ⟨ws, S1, m1, w, S', r1, rl1, he, fun H' m' v rl' g' => k H' m' v rl' (g1.trans g')⟩
theorem me_call (G : FnOk X.prog X.w X.K X.mg X.base CX0 k f fd ps (spM X.K F)) (hr : Room k X.A) (hg : Gl X x) (hm : X.mg x = some (.ref f)) (hk : PySem.W.keepIn X.K (.ref f) = true) (hb : Binds X.K fd ps [])
    (ha : PA X (e :: es) (tMA X.K ga)) (hdb : (x == ("__debug__" : Str)) = false := by decide) (he : starEach (e :: es) X.env = (false, eval e X.env) :: starEach es X.env := by rfl) (hpl : (backTo pos (starEach es X.env)).any (·.1) = false := by rfl) :
    PE X (.Call (.Name x p) (e :: es) [] pos) (tM X.K (mCall F ga)) :=
  PE.imp (pe_call G hr hg hm hk hb .nil pass0 ha hdb he hpl) fun σ H Q h => sp_call h
theorem me_call0 (G : FnOk X.prog X.w X.K X.mg X.base CX0 k f fd ps (spM X.K F)) (hr : Room k X.A) (hg : Gl X x) (hm : X.mg x = some (.ref f)) (hk : PySem.W.keepIn X.K (.ref f) = true) (hb : Binds X.K fd ps [])
    (hdb : (x == ("__debug__" : Str)) = false := by decide) : PE X (.Call (.Name x p) [] [] pos) (tM X.K (mCall F mNil)) :=
  PE.imp (pe_call0 G hr hg hm hk hb .nil pass0 hdb) fun σ H Q h => by
    have := sp_call (E := E0) h
    obtain ⟨env, S, m, w, S', er, rl, he, k⟩ := this
    cases he
    exact k H m [] rl .refl rfl
/-- positional and keyword values in the parameters' order -/
def kg {α : Type} (a b : Nat) (is : List Nat) (us ws : List α) : List α := if us.length = a ∧ ws.length = b then is.filterMap fun i => (us ++ ws)[i]? else []
def mCallK (F : List W → Sto → Option (W × Sto)) (is : List Nat) (a b : Nat) (ga gk : MA) : ME := fun env S => (ga env S).bind fun p => (gk env p.2).bind fun q => F (kg a b is p.1 q.1) q.2
theorem WRs.append {K : PySem.W.Frag} {H : Hp} {m : Mp} : ∀ {ws us : List W} {xs ys : List V}, WRs K H m ws xs → WRs K H m us ys → WRs K H m (ws ++ us) (xs ++ ys)
  | [], _, _, _, h, k => by unfold WRs at h; subst h; exact k
  | w :: ws, _, _, _, h, k => by
    obtain ⟨v, vs', rfl, h1, h2⟩ := h
    exact ⟨v, _, rfl, h1, WRs.append h2 k⟩
theorem WRs.none_of {K : PySem.W.Frag} {H : Hp} {m : Mp} {ws : List W} {vs : List V} {i : Nat} (r : WRs K H m ws vs) (e : ws[i]? = none) : vs[i]? = none := by
  have h1 := WRs.length r
  have h2 : ws.length ≤ i := List.getElem?_eq_none_iff.mp e
  exact List.getElem?_eq_none_iff.mpr (by omega)
theorem WRs.pick {K : PySem.W.Frag} {H : Hp} {m : Mp} {ws : List W} {vs : List V} (r : WRs K H m ws vs) : ∀ is : List Nat, WRs K H m (is.filterMap fun i => ws[i]?) (is.filterMap fun i => vs[i]?)
  | [] => rfl
  | i :: is => by
    cases q : ws[i]? with
    | none =>
      rw [List.filterMap_cons_none q, List.filterMap_cons_none (r.none_of q)]
      exact WRs.pick r is
    | some w =>
      obtain ⟨v, e1, r1⟩ := r.get q
      rw [List.filterMap_cons_some q, List.filterMap_cons_some e1]
      exact ⟨v, _, rfl, r1, WRs.pick r is⟩
theorem WRs.kg {K : PySem.W.Frag} {H : Hp} {m : Mp} {us zs : List W} {vs ys : List V} {a b : Nat} {is : List Nat} (r : WRs K H m us vs) (r' : WRs K H m zs ys) : WRs K H m (MW.kg a b is us zs) (MW.kg a b is vs ys) := by
  unfold MW.kg
  rw [WRs.length r, WRs.length r']
  split
  · exact (r.append r').pick is
  · rfl
theorem Vals.pick {ws : List V} {vs : List Value} (r : Vals ws vs) : ∀ is : List Nat, Vals (is.filterMap fun i => ws[i]?) (is.filterMap fun i => vs[i]?)
  | [] => .nil
  | i :: is => by
    cases q : ws[i]? with
    | none =>
      rw [List.filterMap_cons_none q, List.filterMap_cons_none (r.none_of q)]
      exact Vals.pick r is
    | some w =>
      obtain ⟨v, e1, r1⟩ := r.get q
      rw [List.filterMap_cons_some q, List.filterMap_cons_some e1]
      exact .cons r1 (Vals.pick r is)
theorem kbinds {K : PySem.W.Frag} {xn qual : Str} {st : Stmt} {a b : Nat} {is : List Nat} (F : Fun K xn qual st f fd) (hps : 0 < ps.length)
    (h : ∀ (kV doc pm : Value) (an : Option Addr) (cdv ct : Value) (us ws : List Value), us.length = a → ws.length = b → bindArgs (PySem.W.fnOf xn qual (defArgs st) (defBody st) (defScope st) .none kV doc pm an cdv ct) ⟨us, ks.zip ws⟩ = pure (ps.zip (kg a b is us ws))) :
    KBinds K fd ps ks (kg a b is) (kg a b is) := by
  obtain ⟨oc, od, kV, doc, pm, an, cdv, ct, osl, rfl, lk, hcd⟩ := F.ex
  refine ⟨fun s us ws _ hl => ?_, fun {vs us zs ws} r r' => ?_⟩
  · by_cases c : us.length = a ∧ ws.length = b
    · exact .of_eq (h kV doc pm an cdv ct us ws c.1 c.2)
    · unfold kg at hl
      rw [if_neg c] at hl
      rw [← hl] at hps
      exact absurd hps (Nat.lt_irrefl _)
  · unfold kg
    rw [r.length, r'.length]
    split
    · exact Vals.pick (r.append r') is
    · exact .nil
/-- the keywords' values -/
theorem mk_nil : PK X [] (tMA X.K mNil) := ⟨fun pos pins s σ H Q I q => pk_nil.run pos pins s σ H Q I (by
  obtain ⟨env, S, m, w, S', er, rl, he, k⟩ := q
  cases he
  exact k H m [] rl .refl rfl)⟩
theorem mk_cons {nm : Option Str} {kpos : Pos} {fa : ME} (ha : PE X e (tM X.K fa)) (hr : PK X kws (tMA X.K ga)) : PK X (⟨nm, e, kpos⟩ :: kws) (tMA X.K (mCons fa ga)) := ⟨fun pos pins s σ H Q I q => (pk_cons ha hr).run pos pins s σ H Q I (by
  obtain ⟨env, S, m, w, S', er, rl, he, k⟩ := q
  unfold mCons at he
  obtain ⟨⟨p, S1⟩, h1, he⟩ := bind_some he
  obtain ⟨⟨q, S2⟩, h2, he⟩ := bind_some he
  cases he
  refine ⟨env, S, m, p, S1, er, rl, h1, fun H1 m1 x rl1 g1 r1 => ⟨env, S1, m1, q, _, er.gr g1, rl1, h2, fun H2 m2 xs rl2 g2 r2 => ?_⟩⟩
  exact k H2 m2 (x :: xs) rl2 (g1.trans g2) ⟨x, xs, rfl, r1.gr g2, r2⟩)⟩
theorem sp_callK {a b : Nat} {is : List Nat} {σ : St} {H : Hp} {Q : VK} {E : XK} (h : tM X.K (mCallK F is a b ga gk) σ H Q) : tCallK (spM X.K F) (kg a b is) E (tMA X.K ga) (tMA X.K gk) σ H Q := by
  obtain ⟨env, S, m, w, S', er, rl, he, k⟩ := h
  unfold mCallK at he
  obtain ⟨⟨ws, S1⟩, h1, he⟩ := bind_some he
  obtain ⟨⟨zs, S2⟩, h2, he⟩ := bind_some he
  refine ⟨env, S, m, ws, S1, er, rl, h1, fun H1 m1 vs rl1 g1 r1 => ⟨env, S1, m1, zs, S2, er.gr g1, rl1, h2, fun H2 m2 ys rl2 g2 r2 => ?_⟩⟩
  exact ⟨_, S2, m2, w, S', (r1.gr g2).kg r2, rl2, he, fun H' m' v rl' g' => k H' m' v rl' ((g1.trans g2).trans g')⟩
theorem me_callK {a b : Nat} {is : List Nat} (G : FnOk X.prog X.w X.K X.mg X.base CX0 k f fd ps (spM X.K F)) (hr : Room k X.A) (hg : Gl X x) (hm : X.mg x = some (.ref f)) (hk : PySem.W.keepIn X.K (.ref f) = true) (hb : KBinds X.K fd ps ks (kg a b is) (kg a b is))
    (ha : PA X (e :: es) (tMA X.K ga)) (hkw : PK X kws (tMA X.K gk)) (hall : (backToKw pos (keywordEach kws X.env)).all (·.1.isSome) = true := by rfl) (hks : (backToKw pos (keywordEach kws X.env)).filterMap (·.1) = ks := by rfl)
    (hdb : (x == ("__debug__" : Str)) = false := by decide) (he : starEach (e :: es) X.env = (false, eval e X.env) :: starEach es X.env := by rfl)
    (hpl : ((backTo pos (starEach (e :: es) X.env)).any (·.1) || (backToKw pos (keywordEach kws X.env)).any (·.1.isNone)) = false := by rfl) :
    PE X (.Call (.Name x p) (e :: es) kws pos) (tM X.K (mCallK F is a b ga gk)) :=
  PE.imp (pe_callK G hr hg hm hk hb pass0 ha hkw hall hks hdb he hpl) fun σ H Q h => sp_callK h
theorem me_callK0 {b : Nat} {is : List Nat} (G : FnOk X.prog X.w X.K X.mg X.base CX0 k f fd ps (spM X.K F)) (hr : Room k X.A) (hg : Gl X x) (hm : X.mg x = some (.ref f)) (hk : PySem.W.keepIn X.K (.ref f) = true) (hb : KBinds X.K fd ps ks (kg 0 b is) (kg 0 b is))
    (hkw : PK X kws (tMA X.K gk)) (hall : (backToKw pos (keywordEach kws X.env)).all (·.1.isSome) = true := by rfl) (hks : (backToKw pos (keywordEach kws X.env)).filterMap (·.1) = ks := by rfl)
    (hdb : (x == ("__debug__" : Str)) = false := by decide)
    (hpl : ((backTo pos (starEach [] X.env)).any (·.1) || (backToKw pos (keywordEach kws X.env)).any (·.1.isNone)) = false := by rfl) :
    PE X (.Call (.Name x p) [] kws pos) (tM X.K (mCallK F is 0 b mNil gk)) := by
  refine ⟨fun pins s σ H Q I h => ?_⟩
  obtain ⟨env, S, m, w, S', er, rl, he, k⟩ := h
  unfold mCallK at he
  obtain ⟨⟨ws, S1⟩, h1, he⟩ := bind_some he
  cases h1
  obtain ⟨⟨zs, S2⟩, h2, he⟩ := bind_some he
  refine wpAny_Call_Name_kw (ld_glob I hg hm ?_ hdb)
  refine PySem.W.callWith_KW0 (h₀ := X.base) I.ok.mod.kin hk hall (thn (hkw.run pos pins s σ H (fun ys H2 => spM X.K F (kg 0 b is [] ys) H2 Q E0) I ⟨env, S, m, zs, S2, er, rl, h2, fun H2 m2 ys rl2 g2 r2 => ?_⟩) fun ws s2 ⟨ys, H2, I2, rz, q2⟩ => ⟨I2.kIn, ?_⟩) hpl
  · exact ⟨_, S2, m2, w, S', WRs.kg (us := []) (vs := []) rfl r2, rl2, he, fun H' m' v rl' g' => k H' m' v rl' (g2.trans g')⟩
  · rw [hks]
    exact run_fnk (us := []) (vs := []) G hr hb pass0 I2 .nil rz q2
end
/-- the law itself: whatever the script is -/
theorem law_sp {K : PySem.W.Frag} {F : List W → Sto → Option (W × Sto)} (h1 : ∀ ns : List Int, ns.length ≤ 63 → ∃ S, F [.scr ns] [] = some (.d (.bl true), S)) (H : Hp) (a : Addr) (ns : List Int) (hl : ns.length ≤ 63) (hO : Only H) (hS : SqL K H a (ns.map V.int)) :
    spM K F [.ref a] H (fun v _ => v = .bl true) fun _ _ _ => False := by
  obtain ⟨S, e⟩ := h1 ns hl
  refine ⟨[.scr ns], [], ⟨[], fun _ => False⟩, _, S, ⟨_, [], rfl, ⟨a, rfl, ?_⟩, rfl⟩, ⟨rfl, fun i j a h => (by simp at h), fun n o a h => (by simp at h), fun a h => (nomatch h), fun a h => h.elim⟩, e, fun H' m' v rl g r => ?_⟩
  · rcases hS with (h | ⟨o, h⟩) | h
    · rcases hO a with z | ⟨o, xs, z⟩
      · rw [z] at h; cases h
      · rw [z] at h; cases h
    · exact .inl ⟨o, h⟩
    · exact .inr h
  · unfold WR DR at r
    exact r
end MW
end
section
set_option maxRecDepth 100000
/-! MW, part h: short words for the printed terms. -/
namespace MW
open PySem PySem.Spec L2
section
variable {X : Cx} {e : Expr}
/-! ### comprehensions -/
def tYesM : MB := fun _ S => some (true, S)
theorem mts_nil : PTs X [] (tMB X.K tYesM) := ⟨fun pins s σ H Q I h => by
  obtain ⟨env, S, m, w, S', er, rl, he, k⟩ := h
  cases he
  exact pts_nil.run pins s σ H Q I (k H m rl .refl)⟩
theorem me_lc (mk : Mk) (t : CT) {elt tg iter : Expr} {ifs : List Expr} {scope : Scope} {own : List (Str × Nat)} {pos : Pos} {fi : MI} {c : MB} {f : ME} (hc : X.calm = true) (hN : X.N.Nodup) (hi : PI X tg iter (tMI X.K fi)) (ok : BlkOk X.N X.env.scope scope own)
    (hg : ∀ (s : Shared) (H : Hp) (C : Addr) (cl : List (Str × Addr)) (fp : List Addr), PG (X.blk s H scope (PySem.compEnvC scope cl C X.env) fp) tg (cT X.K t)) (ht : ∀ (s : Shared) (H : Hp) (C : Addr) (cl : List (Str × Addr)) (fp : List Addr), PTs (X.blk s H scope (PySem.compEnvC scope cl C X.env) fp) ifs (tMB X.K c))
    (he : ∀ (s : Shared) (H : Hp) (C : Addr) (cl : List (Str × Addr)) (fp : List Addr), PE (X.blk s H scope (PySem.compEnvC scope cl C X.env) fp) elt (tM X.K f)) (hs : ∀ x, foldedSetIterable iter X.env x = pure x := by intro _; rfl) :
    PE X (.ListComp elt [⟨tg, iter, ifs, 0⟩] scope pos) (tM X.K (mLc mk fi t c f (own.map (·.2)))) := PE.imp (pe_lc hc hN hi ok hg ht he hs) fun σ H Q h => lc_of h
theorem ms_setLc (mk : Mk) (t : CT) {i : Nat} {y : Str} {py : Pos} {elt tg iter : Expr} {ifs : List Expr} {scope : Scope} {own : List (Str × Nat)} {pos spos : Pos} {fi : MI} {c : MB} {f : ME} (hc : X.calm = true) (hN : X.N.Nodup) (hy : X.N[i]? = some y) (hyl : X.env.scope.names.lookup y = some .local)
    (hsw : swapsWith (.ListComp elt [⟨tg, iter, ifs, 0⟩] scope pos) (some (.Name y py)) spos.line X.env = pure true) (hi : PI X tg iter (tMI X.K fi)) (ok : BlkOk X.N X.env.scope scope own)
    (hg : ∀ (s : Shared) (H : Hp) (C : Addr) (cl : List (Str × Addr)) (fp : List Addr), PG (X.blk s H scope (PySem.compEnvC scope cl C X.env) fp) tg (cT X.K t)) (ht : ∀ (s : Shared) (H : Hp) (C : Addr) (cl : List (Str × Addr)) (fp : List Addr), PTs (X.blk s H scope (PySem.compEnvC scope cl C X.env) fp) ifs (tMB X.K c))
    (he : ∀ (s : Shared) (H : Hp) (C : Addr) (cl : List (Str × Addr)) (fp : List Addr), PE (X.blk s H scope (PySem.compEnvC scope cl C X.env) fp) elt (tM X.K f)) (hs : ∀ x, foldedSetIterable iter X.env x = pure x := by intro _; rfl) :
    PS X (.Assign [.Name y py] (.ListComp elt [⟨tg, iter, ifs, 0⟩] scope pos) spos) (tMS X.K (sAsg (mLc mk fi t c f (own.map (·.2))) (mgName i))) :=
  PS.imp (ps_setLc hc hN hy hyl hsw hi ok hg ht he hs) (tAsg_of (fun _ _ _ h => lc_of h) fun v σ H Q h => by
    obtain ⟨env, S, m, w, env', S', er, rl, r, he, k⟩ := h
    cases he
    exact k _ H m (er.set r) rl .refl)
/-- a value that is True or False by its truth: numbers, texts, lists, tuples -/
def W.tru (S : Sto) (w : W) : Option Bool := match w with
  | .d .non => some false
  | .d (.bl b) => some b
  | .d (.int i) => some (i != 0)
  | .d (.str s) => if s.length ≤ sizeLine then some ((s.length : Int) != 0) else none
  | w => (W.seq S w).bind fun xs => some (!xs.isEmpty)
def mTru (f : ME) : MB := fun env S => (f env S).bind fun p => (W.tru p.2 p.1).bind fun b => some (b, p.2)
/-! ### names -/
theorem mv (i : Nat) {x : Str} {pos : Pos} (hN : X.N[i]? = some x := by rfl) (hv : Vis X.env.scope x := by first | exact Or.inl rfl | exact Or.inr (Or.inl rfl) | exact Or.inr (Or.inr rfl)) (hd : (x == ("__debug__" : Str)) = false := by decide)
    (hcd : (x == ("__classdict__" : Str)) = false := by decide) : PE X (.Name x pos) (tM X.K (mVar i)) := me_var (pe_var hN hv hd hcd)
theorem gv (i : Nat) {x : Str} {pos : Pos} (hN : X.N.Nodup) (hi : X.N[i]? = some x := by rfl) (hx : Loc X.env.scope x := by first | exact Or.inl rfl | exact Or.inr rfl) (hf : X.fn x = true ∨ X.env.scope.names.lookup x = some .local := by first | exact .inl rfl | exact .inr rfl) : PG X (.Name x pos) (tMG X.K (mgName i)) :=
  mg_name (pg_name hN hi hx hf)
theorem cv (i : Nat) {x : Str} {pos : Pos} (hN : X.N.Nodup) (hi : X.N[i]? = some x := by rfl) (hx : Loc X.env.scope x := by first | exact Or.inl rfl | exact Or.inr rfl) (hf : X.fn x = true ∨ X.env.scope.names.lookup x = some .local := by first | exact .inl rfl | exact .inr rfl) : PG X (.Name x pos) (gName i) :=
  pg_name hN hi hx hf
/-- x = e -/
theorem ms_set (i : Nat) {x : Str} {pos' pos : Pos} {f : ME} (hN : X.N.Nodup) (he : PE X e (tM X.K f)) (hi : X.N[i]? = some x := by rfl) (hx : Loc X.env.scope x := by first | exact Or.inl rfl | exact Or.inr rfl) (hs : swapsWith e (some (.Name x pos')) pos.line X.env = pure false := by rfl) (hf : X.fn x = true ∨ X.env.scope.names.lookup x = some .local := by first | exact .inl rfl | exact .inr rfl) :
    PS X (.Assign [.Name x pos'] e pos) (tMS X.K (sAsg f (mgName i))) :=
  PS.imp (ps_set hN hi hx he hs hf) (tAsg_of (fun _ _ _ h => h) fun v σ H Q h => by
    obtain ⟨env, S, m, w, env', S', er, rl, r, he, k⟩ := h
    cases he
    exact k _ H m (er.set r) rl .refl)
end
/-! ### what the top has made -/
/-- a def of the text stands at the name x -/
def DefT (K : PySem.W.Frag) (mg : Str → Option Value) (x : Str) (st : Stmt) : Prop := ∃ (f : Addr) (fd : FuncData), mg x = some (.ref f) ∧ Fun K x x st f fd
theorem defT {K : PySem.W.Frag} {h : Heap} {mg : Str → Option Value} {x : Str} {st : Stmt} {f : Addr} {oc : Value} {od an : Option Addr} {osl : Array (Option Value)} {kV doc pm cdv ct : Value} (X : K.In h) (G : h.Ns mainGlobals mg)
    (a : PySem.W.nsIn K mainGlobals x = some (some (.ref f))) (l : K.lookup f = some ⟨oc, od, .func (PySem.W.fnOf x x (defArgs st) (defBody st) (defScope st) .none kV doc pm an cdv ct), osl⟩)
    (c : PySem.W.codeIn K cdv x = true) (k : PySem.W.keepIn K (.ref f) = true) : DefT K mg x st := ⟨f, _, PySem.W.mg_of X G a, fun_mk l c k⟩
section
variable (P : Program) (w : World) (K : PySem.W.Frag) (mg : Str → Option Value) (base : Heap)
/-- .. and keeps the promise of its mirror F -/
def Has (x : Str) (st : Stmt) (ps : List Str) (k : Nat) (F : List W → Sto → Option (W × Sto)) : Prop :=
  ∃ (f : Addr) (fd : FuncData), mg x = some (.ref f) ∧ Fun K x x st f fd ∧ Binds K fd ps [] ∧ FnOk P w K mg base CX0 k f fd ps (spM K F)
end
section
variable {P : Program} {w : World} {K : PySem.W.Frag} {mg : Str → Option Value} {base : Heap} {x : Str} {st : Stmt} {N ps : List Str} {k : Nat} {body : MS}
abbrev BodyOk (P : Program) (w : World) (K : PySem.W.Frag) (mg : Str → Option Value) (base : Heap) (x : Str) (st : Stmt) (N : List Str) (k : Nat) (body : MS) : Prop :=
  ∀ (f : Addr) (cdv : Value) (A : Around) (outer : List PySem.Env) (s : Shared) (H : Hp) (E : XK), Room k (A.deeper (PyProof.Rows.envOfC x (defScope st) s.heap.objs.size f cdv)) → PSs (cxOf CX0 P w K mg base N x (defScope st) f cdv A outer s H E).nox (defBody st) (tMS K body)
abbrev BindOk (x : Str) (st : Stmt) (ps : List Str) : Prop :=
  ∀ (kV doc pm : Value) (an : Option Addr) (cdv ct : Value) (us : List Value), us.length = ps.length → bindArgs (PySem.W.fnOf x x (defArgs st) (defBody st) (defScope st) .none kV doc pm an cdv ct) ⟨us, []⟩ = pure (ps.zip us)
theorem has_def {keep : Bool} (D : DefT K mg x st) (sc : FnScope N ps (defScope st)) (hbind : BindOk x st ps) (hb : BodyOk P w K mg base x st N k body) : Has P w K mg base x st ps (k + 1) (runDef N.length ps.length keep body) := by
  obtain ⟨f, fd, hm, F⟩ := D
  exact ⟨f, fd, hm, F, F.binds hbind, def_ok F sc fun cdv A outer s H E hr => hb f cdv A outer s H E hr⟩
theorem has_pure (D : DefT K mg x st) (sc : FnScope N ps (defScope st)) (hbind : BindOk x st ps) (hb : BodyOk P w K mg base x st N k body) : Has P w K mg base x st ps (k + 1) (callP (runPure N.length ps.length body)) := by
  obtain ⟨f, fd, hm, F⟩ := D
  exact ⟨f, fd, hm, F, F.binds hbind, def_okP F sc fun cdv A outer s H E hr => hb f cdv A outer s H E hr⟩
end
section
variable {X : Cx} {k : Nat} {ps ks : List Str} {x : Str} {st : Stmt} {p pos : Pos} {e : Expr} {es : List Expr} {kws : List Keyword} {ga gk : MA} {F : List W → Sto → Option (W × Sto)}
theorem mh_call (h : Has X.prog X.w X.K X.mg X.base x st ps k F) (hr : Room k X.A) (hg : Gl X x) 
    (ha : PA X (e :: es) (tMA X.K ga)) (hdb : (x == ("__debug__" : Str)) = false := by decide) (he : starEach (e :: es) X.env = (false, eval e X.env) :: starEach es X.env := by rfl) (hpl : (backTo pos (starEach es X.env)).any (·.1) = false := by rfl) :
    PE X (.Call (.Name x p) (e :: es) [] pos) (tM X.K (mCall F ga)) := by
  obtain ⟨f, fd, hm, Fn, hb, G⟩ := h
  exact me_call G hr hg hm Fn.kp hb ha hdb he hpl
theorem mh_call0 (h : Has X.prog X.w X.K X.mg X.base x st ps k F) (hr : Room k X.A) (hg : Gl X x) (hdb : (x == ("__debug__" : Str)) = false := by decide) : PE X (.Call (.Name x p) [] [] pos) (tM X.K (mCall F mNil)) := by
  obtain ⟨f, fd, hm, Fn, hb, G⟩ := h
  exact me_call0 G hr hg hm Fn.kp hb hdb
abbrev KBindOk (x : Str) (st : Stmt) (ps ks : List Str) (a b : Nat) (is : List Nat) : Prop :=
  ∀ (kV doc pm : Value) (an : Option Addr) (cdv ct : Value) (us ws : List Value), us.length = a → ws.length = b → bindArgs (PySem.W.fnOf x x (defArgs st) (defBody st) (defScope st) .none kV doc pm an cdv ct) ⟨us, ks.zip ws⟩ = pure (ps.zip (kg a b is us ws))
theorem mh_callK {a b : Nat} {is : List Nat} (h : Has X.prog X.w X.K X.mg X.base x st ps k F) (hr : Room k X.A) (hg : Gl X x) (hps : 0 < ps.length) (hb : KBindOk x st ps ks a b is)
    (ha : PA X (e :: es) (tMA X.K ga)) (hkw : PK X kws (tMA X.K gk)) (hall : (backToKw pos (keywordEach kws X.env)).all (·.1.isSome) = true := by rfl) (hks : (backToKw pos (keywordEach kws X.env)).filterMap (·.1) = ks := by rfl)
    (hdb : (x == ("__debug__" : Str)) = false := by decide) (he : starEach (e :: es) X.env = (false, eval e X.env) :: starEach es X.env := by rfl)
    (hpl : ((backTo pos (starEach (e :: es) X.env)).any (·.1) || (backToKw pos (keywordEach kws X.env)).any (·.1.isNone)) = false := by rfl) :
    PE X (.Call (.Name x p) (e :: es) kws pos) (tM X.K (mCallK F is a b ga gk)) := by
  obtain ⟨f, fd, hm, Fn, _, G⟩ := h
  exact me_callK G hr hg hm Fn.kp (kbinds Fn hps hb) ha hkw hall hks hdb he hpl
theorem mh_callK0 {b : Nat} {is : List Nat} (h : Has X.prog X.w X.K X.mg X.base x st ps k F) (hr : Room k X.A) (hg : Gl X x) (hps : 0 < ps.length) (hb : KBindOk x st ps ks 0 b is)
    (hkw : PK X kws (tMA X.K gk)) (hall : (backToKw pos (keywordEach kws X.env)).all (·.1.isSome) = true := by rfl) (hks : (backToKw pos (keywordEach kws X.env)).filterMap (·.1) = ks := by rfl)
    (hdb : (x == ("__debug__" : Str)) = false := by decide)
    (hpl : ((backTo pos (starEach [] X.env)).any (·.1) || (backToKw pos (keywordEach kws X.env)).any (·.1.isNone)) = false := by rfl) :
    PE X (.Call (.Name x p) [] kws pos) (tM X.K (mCallK F is 0 b mNil gk)) := by
  obtain ⟨f, fd, hm, Fn, _, G⟩ := h
  exact me_callK0 G hr hg hm Fn.kp (kbinds Fn hps hb) hkw hall hks hdb hpl
end
/-- the end of a law -/
theorem law_end {l : PySem.W.OpenLaw} {k : Nat} {q : Program} {loose : List Str} {XP : (Str → Option Value) → Heap → Prop} {YP : World → Heap → Prop} {d : DefRec} {K : Params → PySem.W.Frag} {st : Stmt} {F : List W → Sto → Option (W × Sto)}
    (hn : l.most = some 63) (hdf : d.params.defaults = []) (hr : Room k callerA) (hY : ∀ (w : World) (h : Heap), YP w h → (K w.params).In h) (hname : d.name = "law") (hbind : BindOk "law" st ["script"])
    (hF : ∀ (w : World) (mg : Str → Option Value) (h : Heap), (K w.params).In h → h.Ns mainGlobals mg → DefT (K w.params) mg "law" st ∧ ∀ base : Heap, (K w.params).In base → base.Ns mainGlobals mg → Has l.prog w (K w.params) mg base "law" st ["script"] k F)
    (h1 : ∀ ns : List Int, ns.length ≤ 63 → ∃ S, F [.scr ns] [] = some (.d (.bl true), S)) :
    PySem.W.WalkO q loose XP YP l.row.toRowW d [] (fun f vs => PySem.call f vs) := by
  refine walk_of (n := 63) (k := k) (x := "script") (CX := fun _ => CX0) (sp := fun w => spM (K w.params) F) hn (by decide) hdf hr hY (fun w mg fa h KX G hmg => ?_) (fun w H a ns h2 h3 h4 => law_sp h1 H a ns h2 h3 h4) fun _ _ _ _ _ z => z
  obtain ⟨⟨f0, fd0, hm0, F0⟩, hb⟩ := hF w mg h KX G
  rw [hname, hm0] at hmg
  cases hmg
  refine ⟨fd0, fun s u => ?_, fun base h2 h3 => ?_⟩
  · obtain ⟨oc, od, kV, doc, pm, an, cdv, ct, osl, rfl, lk, hcd⟩ := F0.ex
    exact .of_eq (hbind kV doc pm an cdv ct [u] rfl)
  · obtain ⟨f, fd, hm, Fn, _, G'⟩ := hb base h2 h3
    rw [hm0] at hm
    cases hm
    obtain ⟨_, _, _, _, _, _, _, _, _, _, lk, _⟩ := F0.ex
    obtain ⟨_, _, _, _, _, _, _, _, _, _, lk', _⟩ := Fn.ex
    rw [lk] at lk'
    cases lk'
    exact G'
end MW
end
section
set_option maxRecDepth 100000
/-! MW, part i: what the printed terms use besides. -/
namespace MW
open PySem PySem.Spec L2
theorem bb_len : bootBuiltins "len" = some (.builtin "len") := by decide +kernel
theorem bb_abs : bootBuiltins "abs" = some (.builtin "abs") := by decide +kernel
theorem bb_sum : bootBuiltins "sum" = some (.builtin "sum") := by decide +kernel
theorem bb_all : bootBuiltins "all" = some (.builtin "all") := by decide +kernel
theorem bb_any : bootBuiltins "any" = some (.builtin "any") := by decide +kernel
theorem bb_max : bootBuiltins "max" = some (.builtin "max") := by decide +kernel
theorem bb_min : bootBuiltins "min" = some (.builtin "min") := by decide +kernel
theorem bb_sorted : bootBuiltins "sorted" = some (.builtin "sorted") := by decide +kernel
theorem bb_isinstance : bootBuiltins "isinstance" = some (.builtin "isinstance") := by decide +kernel
theorem bb_int : bootBuiltins "int" = some (.type "int") := by decide +kernel
theorem bb_bool : bootBuiltins "bool" = some (.type "bool") := by decide +kernel
theorem bb_str : bootBuiltins "str" = some (.type "str") := by decide +kernel
theorem bb_list : bootBuiltins "list" = some (.type "list") := by decide +kernel
theorem bb_tuple : bootBuiltins "tuple" = some (.type "tuple") := by decide +kernel
theorem bb_dict : bootBuiltins "dict" = some (.type "dict") := by decide +kernel
theorem bb_set : bootBuiltins "set" = some (.type "set") := by decide +kernel
theorem ki_int : kitOk "int" = true := by decide +kernel
theorem ki_bool : kitOk "bool" = true := by decide +kernel
theorem ki_str : kitOk "str" = true := by decide +kernel
theorem ki_list : kitOk "list" = true := by decide +kernel
theorem ki_tuple : kitOk "tuple" = true := by decide +kernel
theorem ki_dict : kitOk "dict" = true := by decide +kernel
section
variable {X : Cx} {tg e : Expr} {f : ME}
/-- a list or a tuple that is walked -/
theorem PI.or {t t' : TI} (h : PI X tg e t) (h' : PI X tg e t') : PI X tg e (fun σ H R => t σ H R ∨ t' σ H R) := ⟨fun pins s σ H R I q => by
  rcases q with q | q
  · exact h.run pins s σ H R I q
  · exact h'.run pins s σ H R I q⟩
def miSeq (f : ME) : MI := fun env S => (f env S).bind fun p => match W.tup p.1 with
  | some xs => some (⟨xs, none⟩, p.2)
  | none => (wkL p.2 p.1).bind fun k => some (k, p.2)
theorem mi_seq (h : PE X e (tM X.K f)) : PI X tg e (tMI X.K (miSeq f)) := PI.imp (PI.or (mi_list h) (mi_tup h)) fun σ H R ⟨env, S, m, w, S', er, rl, he, k⟩ => by
  unfold miSeq at he
  obtain ⟨⟨w1, S1⟩, h1, he⟩ := bind_some he
  split at he
  · rename_i xs h2
    cases he
    refine .inr ⟨env, S, m, _, _, er, rl, ?_, k⟩
    unfold miTup
    rw [h1]
    show (W.tup w1).bind _ = _
    rw [h2]
    rfl
  · obtain ⟨kk, h2, he⟩ := bind_some he
    cases he
    refine .inl ⟨env, S, m, _, _, er, rl, ?_, k⟩
    unfold miList
    rw [h1]
    show (wkL S1 w1).bind _ = _
    rw [h2]
    rfl
def gRev (mk : Mk) : W → Sto → Option (W × Sto) := fun x S => (W.list S x).bind fun xs => some (newL mk xs.reverse S)
theorem DRs.rev {K : PySem.W.Frag} {H : Hp} {m : Mp} : ∀ {xs : List D} {vs : List V}, DRs K H m xs vs → DRs K H m xs.reverse vs.reverse
  | [], vs, h => by unfold DRs at h; subst h; exact DRs.nil
  | x :: xs, vs, h => by
    unfold DRs at h
    obtain ⟨v, vs', rfl, h1, h2⟩ := h
    rw [List.reverse_cons, List.reverse_cons]
    exact (DRs.rev h2).append (DRs.one h1)
theorem me_rev (mk : Mk) {k : Nat} {p1 p2 p3 pos : Pos} (he : PE X e (tM X.K f)) : PE X (.Subscript e (.Slice none none (some (.UnaryOp .USub (.Constant (.int 1) k p1) p2)) p3) pos) (tM X.K (mUn (gRev mk) f)) :=
  PE.imp (pe_revL he) fun σ H Q ⟨env, S, m, w, S', er, rl, he, k⟩ => by
    unfold mUn at he
    obtain ⟨⟨p, S1⟩, h1, he⟩ := bind_some he
    refine ⟨env, S, m, p, S1, er, rl, h1, fun H1 m1 x rl1 g1 r1 => ?_⟩
    unfold gRev at he
    obtain ⟨xs, h2, he⟩ := bind_some he
    obtain ⟨a, vs, rfl, h3, h4⟩ := W.list_ok h2 rl1 r1
    exact ⟨a, vs, rfl, h3, newL_ok (Option.some.inj he) rl1 h4.rev fun H' m' v rl' g' => k H' m' v rl' (g1.trans g')⟩
/-! ### the module's constants -/
def Gc (K : PySem.W.Frag) (mg : Str → Option Value) (x : Str) (z : D) : Prop := ∃ (u : Value) (v : V), mg x = some u ∧ RelV v u ∧ ∀ H m, DR K H m z v
theorem me_gc {x : Str} {pos : Pos} {z : D} (hg : Gl X x) (h : Gc X.K X.mg x z) (hd : (x == ("__debug__" : Str)) = false := by decide) : PE X (.Name x pos) (tM X.K (mC z)) := by
  obtain ⟨u, v, hm, r, q⟩ := h
  exact me_c (pe_glob hg hm r hd) q
end
/-- turns enough for a number that falls -/
def fuelAbs (i : Nat) : Env → Sto → Nat := fun env _ => match env[i]? with
  | some (some (.d (.int y))) => y.natAbs + 1
  | _ => 0
/-- a def that is never asked at this depth -/
theorem has_none {P : Program} {w : World} {K : PySem.W.Frag} {mg : Str → Option Value} {base : Heap} {x : Str} {st : Stmt} {ps : List Str} {k : Nat} (D : DefT K mg x st) (hbind : BindOk x st ps) : Has P w K mg base x st ps k (fun _ _ => none) := by
  obtain ⟨f, fd, hm, F⟩ := D
  refine ⟨f, fd, hm, F, F.binds hbind, ⟨fun vs H Q E h => ?_, fun A outer s H args us vs Q E hr h1 h2 h3 h => ?_⟩⟩
  · obtain ⟨_, _, _, _, _, _, _, e, _⟩ := h
    cases e
  · obtain ⟨_, _, _, _, _, _, _, e, _⟩ := h
    cases e
end MW
end
section
set_option maxRecDepth 100000
/-! MW, part j: how the own machine runs, for simp. -/
namespace MW
open PySem L2
section
variable {env : Env} {S : Sto} {w z : W} {i j : Int} {mk : Mk}
@[simp] theorem mC_run (x : D) : mC x env S = some (.d x, S) := (rfl : _ = _).trans rfl
@[simp] theorem mNil_run : mNil env S = some ([], S) := (rfl : _ = _).trans rfl
@[simp] theorem mBin_run (g fa fb) : mBin g fa fb env S = (fa env S).bind fun p => (fb env p.2).bind fun q => g p.1 q.1 q.2 := (rfl : _ = _).trans rfl
@[simp] theorem mUn_run (g fa) : mUn g fa env S = (fa env S).bind fun p => g p.1 p.2 := (rfl : _ = _).trans rfl
@[simp] theorem mCons_run (f g) : mCons f g env S = (f env S).bind fun p => (g env p.2).bind fun q => some (p.1 :: q.1, q.2) := (rfl : _ = _).trans rfl
@[simp] theorem mCall_run (g ga) : mCall g ga env S = (ga env S).bind fun p => g p.1 p.2 := (rfl : _ = _).trans rfl
@[simp] theorem mTest_run (f) : mTest f env S = (f env S).bind fun p => match p.1 with
  | .d (.bl b) => some (b, p.2)
  | _ => none := (rfl : _ = _).trans rfl
@[simp] theorem mAnd_run (f g) : mAnd f g env S = (f env S).bind fun p => if p.1 = true then g env p.2 else some (false, p.2) := (rfl : _ = _).trans rfl
@[simp] theorem mOr_run (f g) : mOr f g env S = (f env S).bind fun p => if p.1 = true then some (true, p.2) else g env p.2 := (rfl : _ = _).trans rfl
@[simp] theorem mNot_run (f) : mNot f env S = (f env S).bind fun p => some (!p.1, p.2) := (rfl : _ = _).trans rfl
@[simp] theorem mIf_run (t f g) : mIf t f g env S = (t env S).bind fun p => if p.1 = true then f env p.2 else g env p.2 := (rfl : _ = _).trans rfl
@[simp] theorem mAndV_run (f g) : mAndV f g env S = (f env S).bind fun p => match p.1 with
  | .d (.bl true) => g env p.2
  | .d (.bl false) => some (.d (.bl false), p.2)
  | _ => none := (rfl : _ = _).trans rfl
@[simp] theorem mOrV_run (f g) : mOrV f g env S = (f env S).bind fun p => match p.1 with
  | .d (.bl false) => g env p.2
  | .d (.bl true) => some (.d (.bl true), p.2)
  | _ => none := (rfl : _ = _).trans rfl
@[simp] theorem mNotV_run (f) : mNotV f env S = (f env S).bind fun p => match p.1 with
  | .d (.bl b) => some (.d (.bl (!b)), p.2)
  | _ => none := (rfl : _ = _).trans rfl
@[simp] theorem mChain_run (g g' fa fb fc) : mChain g g' fa fb fc env S = (fa env S).bind fun p => (fb env p.2).bind fun q => (g p.1 q.1 q.2).bind fun r => match r.1 with
  | .d (.bl true) => (fc env r.2).bind fun t => g' q.1 t.1 t.2
  | .d (.bl false) => some (.d (.bl false), r.2)
  | _ => none := (rfl : _ = _).trans rfl
@[simp] theorem mTup_run (ga) : mTup ga env S = (ga env S).bind fun p => (give p.1 p.2).bind fun q => if q.1.length ≤ sizeLine then some (.d (.tup q.1), q.2) else none := (rfl : _ = _).trans rfl
@[simp] theorem mList_run (ga) : mList mk ga env S = (ga env S).bind fun p => (give p.1 p.2).bind fun q => if q.1.length ≤ sizeLine then some (newL mk q.1 q.2) else none := (rfl : _ = _).trans rfl
@[simp] theorem mMeth_run (T g fo ga) : mMeth T g fo ga env S = (fo env S).bind fun p => if W.ty p.2 p.1 = some T then (ga env p.2).bind fun q => g p.1 q.1 q.2 else none := (rfl : _ = _).trans rfl
@[simp] theorem mCallK_run (F is a b ga gk) : mCallK F is a b ga gk env S = (ga env S).bind fun p => (gk env p.2).bind fun q => F (kg a b is p.1 q.1) q.2 := (rfl : _ = _).trans rfl
@[simp] theorem mSl_run (f fl fh) : mSl mk f fl fh env S = (f env S).bind fun p => (fl env p.2).bind fun q => (fh env q.2).bind fun r => gSl mk p.1 q.1 r.1 r.2 := (rfl : _ = _).trans rfl
@[simp] theorem mNo_run : mNo env S = some (none, S) := (rfl : _ = _).trans rfl
@[simp] theorem mSo_run (f) : mSo f env S = (f env S).bind fun p => match p.1 with
  | .d (.int i) => some (some i, p.2)
  | _ => none := (rfl : _ = _).trans rfl
@[simp] theorem tYesM_run : tYesM env S = some (true, S) := (rfl : _ = _).trans rfl
@[simp] theorem sNil_run : sNil env S = some (.nx env S) := (rfl : _ = _).trans rfl
@[simp] theorem sNo_run : sNo env S = none := (rfl : _ = _).trans rfl
@[simp] theorem sBk_run : sBk env S = some (.bk env S) := (rfl : _ = _).trans rfl
@[simp] theorem sCt_run : sCt env S = some (.ct env S) := (rfl : _ = _).trans rfl
@[simp] theorem sSeq_run (f g) : sSeq f g env S = (f env S).bind fun r => match r with
  | .nx e S1 => g e S1
  | r => some r := (rfl : _ = _).trans rfl
@[simp] theorem sExpr_run (f) : sExpr f env S = (f env S).bind fun p => some (.nx env p.2) := (rfl : _ = _).trans rfl
@[simp] theorem sRet_run (f) : sRet f env S = (f env S).bind fun p => some (.rt p.1 p.2) := (rfl : _ = _).trans rfl
@[simp] theorem sIf_run (t f g) : sIf t f g env S = (t env S).bind fun p => if p.1 = true then f env p.2 else g env p.2 := (rfl : _ = _).trans rfl
@[simp] theorem sAsg_run (f g) : sAsg f g env S = (f env S).bind fun p => (g p.1 env p.2).bind fun q => some (.nx q.1 q.2) := (rfl : _ = _).trans rfl
@[simp] theorem sPar_run (a b ga) : sPar a b ga env S = (ga env S).bind fun p => match p.1 with
  | [v, w] => some (.nx ((env.set a (some v)).set b (some w)) p.2)
  | _ => none := (rfl : _ = _).trans rfl
@[simp] theorem sPar3_run (a b c ga) : sPar3 a b c ga env S = (ga env S).bind fun p => match p.1 with
  | [v, w, z] => some (.nx (((env.set a (some v)).set b (some w)).set c (some z)) p.2)
  | _ => none := (rfl : _ = _).trans rfl
@[simp] theorem sFor_run (f g b) : sFor f g b env S = (f env S).bind fun p => forM p.1 g b p.1.its env p.2 := (rfl : _ = _).trans rfl
@[simp] theorem mgName_run (n w) : mgName n w env S = some (env.set n (some w), S) := (rfl : _ = _).trans rfl
@[simp] theorem mgTup_run (n g w) : mgTup n g w env S = (W.tup w).bind fun xs => if xs.length = n then g (xs.map W.d) env S else none := (rfl : _ = _).trans rfl
@[simp] theorem mgNil_run : mgNil [] env S = some (env, S) := (rfl : _ = _).trans rfl
@[simp] theorem mgCons_run (f g w r) : mgCons f g (w :: r) env S = (f w env S).bind fun p => g r p.1 p.2 := (rfl : _ = _).trans rfl
@[simp] theorem mgSub_run (fo fi w) : mgSub fo fi w env S = (fo env S).bind fun p => (fi env p.2).bind fun q => match p.1, q.1 with
  | .ref n, .d (.int k) => (match give [w] q.2 with
    | some ([d], S1) => (match S1[n]? with
      | some (.lst xs) => (ixN xs.length k).bind fun j => some (env, S1.set n (.lst (xs.set j d)))
      | _ => none)
    | _ => none)
  | _, _ => none := (rfl : _ = _).trans rfl
@[simp] theorem W.tup_run (xs : List D) : W.tup (.d (.tup xs)) = some xs := (rfl : _ = _).trans rfl
@[simp] theorem mVar0 (w : W) (r : Env) : mVar 0 (some w :: r) S = some (w, S) := (rfl : _ = _).trans rfl
@[simp] theorem mVar_succ (n : Nat) (w : Option W) (r : Env) : mVar (n + 1) (w :: r) S = mVar n r S := by
  unfold mVar; rw [List.getElem?_cons_succ]
/-! operators -/
@[simp] theorem iAdd_run : iAdd i j = some (.int (i + j)) := (rfl : _ = _).trans rfl
@[simp] theorem iSub_run : iSub i j = some (.int (i - j)) := (rfl : _ = _).trans rfl
@[simp] theorem iLt_run : iLt i j = some (.bl (decide (i < j))) := (rfl : _ = _).trans rfl
@[simp] theorem iLe_run : iLe i j = some (.bl (decide (i ≤ j))) := (rfl : _ = _).trans rfl
@[simp] theorem iGt_run : iGt i j = some (.bl (decide (j < i))) := (rfl : _ = _).trans rfl
@[simp] theorem iGe_run : iGe i j = some (.bl (decide (j ≤ i))) := (rfl : _ = _).trans rfl
@[simp] theorem gInt_run (g) : gInt g (.d (.int i)) (.d (.int j)) S = (g i j).bind fun z => some (.d z, S) := (rfl : _ = _).trans rfl
@[simp] theorem gAdd_int : gAdd mk (.d (.int i)) (.d (.int j)) S = some (.d (.int (i + j)), S) := (rfl : _ = _).trans rfl
@[simp] theorem gAdd_tup (xs ys : List D) : gAdd mk (.d (.tup xs)) (.d (.tup ys)) S = if xs.length + ys.length ≤ sizeLine then some (.d (.tup (xs ++ ys)), S) else none := by
  show gOr gAddS (gOr gAddT (gAddL mk)) (.d (.tup xs)) (.d (.tup ys)) S = _
  show gOr gAddT (gAddL mk) (.d (.tup xs)) (.d (.tup ys)) S = _
  unfold gOr gAddT
  simp only [W.tup_run, Option.bind_some]
  split <;> simp_all [gAddL, W.listT]
@[simp] theorem gAdd_lst (xs ys : List D) : gAdd mk (.d (.lst xs)) (.d (.lst ys)) S = if xs.length + ys.length ≤ sizeLine then some (newL mk (xs ++ ys) S) else none := (rfl : _ = _).trans rfl
theorem gMul_int (h : i.natAbs.log2 + j.natAbs.log2 < 1000000) : gMul mk (.d (.int i)) (.d (.int j)) S = some (.d (.int (i * j)), S) := by
  show gOr (gInt iMul) _ _ _ _ = _
  unfold gOr
  simp [iMul, h]
theorem log2_lt {n a : Nat} (h : n < 2 ^ a) (ha : 0 < a) : n.log2 < a := by
  by_cases h0 : n = 0
  · subst h0; simpa using ha
  · exact (Nat.log2_lt h0).mpr h
/-- bounds by powers of two -/
theorem gMul_b {a b : Nat} (hi : i.natAbs < 2 ^ a) (hj : j.natAbs < 2 ^ b) (ha : 0 < a) (hb : 0 < b) (h : a + b ≤ 1000000) : gMul mk (.d (.int i)) (.d (.int j)) S = some (.d (.int (i * j)), S) := gMul_int (by
  have := log2_lt hi ha
  have := log2_lt hj hb
  omega)
theorem iDiv_b {a : Nat} (h : 0 < j) (hj : j.natAbs < 2 ^ a) (ha : 0 < a) (h9 : a ≤ 9000) : iDiv i j = some (.int (i / j)) := by
  unfold iDiv
  rw [if_pos ⟨by omega, Nat.lt_of_lt_of_le (log2_lt hj ha) h9⟩, Int.fdiv_eq_ediv_of_nonneg i (by omega)]
theorem iMod_pos (h : 0 < j) : iMod i j = some (.int (i % j)) := by
  unfold iMod
  rw [if_pos (by omega), Int.fmod_eq_emod_of_nonneg i (by omega)]
theorem iPow_b {n : Nat} (h : n ≤ 1000000) (hi : i.natAbs < 2 ^ 64) : iPow i (n : Int) = some (.int (i ^ n)) := by
  unfold iPow
  rw [if_pos ⟨by omega, by omega, hi⟩, Int.toNat_natCast]
@[simp] theorem gNeg_run : gNeg (.d (.int i)) S = some (.d (.int (-i)), S) := (rfl : _ = _).trans rfl
@[simp] theorem gAbs_run : gAbs [.d (.int i)] S = some (.d (.int i.natAbs), S) := by
  show some (W.d (.int (if i < 0 then -i else i)), S) = _
  congr; split <;> omega
@[simp] theorem gToInt_int : gToInt [.d (.int i)] S = some (.d (.int i), S) := (rfl : _ = _).trans rfl
@[simp] theorem gToInt_bl (b : Bool) : gToInt [.d (.bl b)] S = some (.d (.int (if b = true then 1 else 0)), S) := by cases b <;> rfl
@[simp] theorem gMax2_run : gMax2 [.d (.int i), .d (.int j)] S = some (.d (.int (max i j)), S) := by
  have : (if j > i then j else i) = max i j := by split <;> omega
  show some (W.d (.int (if j > i then j else i)), S) = _
  rw [this]
@[simp] theorem gMin2_run : gMin2 [.d (.int i), .d (.int j)] S = some (.d (.int (min i j)), S) := by
  have : (if j < i then j else i) = min i j := by split <;> omega
  show some (W.d (.int (if j < i then j else i)), S) = _
  rw [this]
@[simp] theorem give_nil : give [] S = some ([], S) := (rfl : _ = _).trans rfl
@[simp] theorem give_d (x : D) (ws : List W) : give (.d x :: ws) S = (give ws S).bind fun p => some (x :: p.1, p.2) := (rfl : _ = _).trans rfl
@[simp] theorem newL_pure (xs : List D) : newL .pure xs S = (.d (.lst xs), S) := (rfl : _ = _).trans rfl
@[simp] theorem newL_own (xs : List D) : newL .own xs S = (.ref S.length, S ++ [.lst xs]) := (rfl : _ = _).trans rfl
@[simp] theorem gIsi_d (T : String) (x : D) : gIsi T (.d x) S = some (.d (.bl (isT (tyD x) T)), S) := (rfl : _ = _).trans rfl
@[simp] theorem gIsi2_d (T T' : String) (x : D) : gIsi2 T T' (.d x) S = some (.d (.bl (isT (tyD x) T || isT (tyD x) T')), S) := (rfl : _ = _).trans rfl
@[simp] theorem gIx_tup (xs : List D) : gIx (.d (.tup xs)) (.d (.int i)) S = (atI xs i).bind fun z => some (.d z, S) := (rfl : _ = _).trans rfl
@[simp] theorem gIx_lst (xs : List D) : gIx (.d (.lst xs)) (.d (.int i)) S = (atI xs i).bind fun z => some (.d z, S) := (rfl : _ = _).trans rfl
theorem gIx_ref {n : Nat} {xs : List D} (h : S[n]? = some (.lst xs)) : gIx (.ref n) (.d (.int i)) S = (atI xs i).bind fun z => some (.d z, S) := by
  show (W.seq S (.ref n)).bind _ = _
  have : W.seq S (.ref n) = some xs := by unfold W.seq W.list; simp [h]
  rw [this]; rfl
@[simp] theorem gLen_tup (xs : List D) : gLen [.d (.tup xs)] S = some (.d (.int xs.length), S) := (rfl : _ = _).trans rfl
@[simp] theorem gLen_lst (xs : List D) : gLen [.d (.lst xs)] S = some (.d (.int xs.length), S) := (rfl : _ = _).trans rfl
theorem gLen_ref {n : Nat} {xs : List D} (h : S[n]? = some (.lst xs)) : gLen [.ref n] S = some (.d (.int xs.length), S) := by
  show (W.seq S (.ref n)).bind _ = _
  have : W.seq S (.ref n) = some xs := by unfold W.seq W.list; simp [h]
  rw [this]; rfl
theorem atI_nat {α : Type} {xs : List α} {k : Nat} : atI xs (k : Int) = xs[k]? := by
  unfold atI ixN
  rw [if_pos (by omega)]
  by_cases h : (k : Int) < xs.length
  · rw [if_pos h]; simp
  · rw [if_neg h]
    have : xs.length ≤ k := by omega
    simp [this]
@[simp] theorem atI_0 {α : Type} {xs : List α} : atI xs 0 = xs[0]? := atI_nat (k := 0)
@[simp] theorem atI_1 {α : Type} {xs : List α} : atI xs 1 = xs[1]? := atI_nat (k := 1)
@[simp] theorem atI_2 {α : Type} {xs : List α} : atI xs 2 = xs[2]? := atI_nat (k := 2)
@[simp] theorem atI_3 {α : Type} {xs : List α} : atI xs 3 = xs[3]? := atI_nat (k := 3)
/-- from behind -/
theorem atI_neg {α : Type} {xs : List α} {k : Nat} (h : 0 < k) (hk : k ≤ xs.length) : atI xs (-(k : Int)) = xs[xs.length - k]? := by
  unfold atI ixN
  rw [if_neg (by omega), if_pos (by omega)]
  have : (-(k : Int) + xs.length).toNat = xs.length - k := by omega
  simp [this]
@[simp] theorem dats_nil : dats S [] = some ([], true) := (rfl : _ = _).trans rfl
@[simp] theorem dats_d (x : D) (ws : List W) : dats S (.d x :: ws) = (dats S ws).bind fun p => some (x :: p.1, p.2) := (rfl : _ = _).trans rfl
theorem callP_d {F : List D → Option D} (xs : List D) : callP F (xs.map W.d) S = (F xs).bind fun x => some (.d x, S) := by
  have : dats S (xs.map W.d) = some (xs, true) := by
    induction xs with
    | nil => rfl
    | cons x xs ih => simp [ih]
  unfold callP
  simp [this]
@[simp] theorem callP_1 {F : List D → Option D} (x : D) : callP F [.d x] S = (F [x]).bind fun x => some (.d x, S) := callP_d [x]
@[simp] theorem callP_2 {F : List D → Option D} (x y : D) : callP F [.d x, .d y] S = (F [x, y]).bind fun x => some (.d x, S) := callP_d [x, y]
@[simp] theorem callP_3 {F : List D → Option D} (x y z : D) : callP F [.d x, .d y, .d z] S = (F [x, y, z]).bind fun x => some (.d x, S) := callP_d [x, y, z]
@[simp] theorem callP_4 {F : List D → Option D} (x y z u : D) : callP F [.d x, .d y, .d z, .d u] S = (F [x, y, z, u]).bind fun x => some (.d x, S) := callP_d [x, y, z, u]
/-! == -/
@[simp] theorem eqv_int : D.eqv (.int i) (.int j) = decide (i = j) := by
  show (i == j) = _
  exact Bool.eq_iff_iff.mpr (by simp)
@[simp] theorem W.py_d (x : D) : W.py S (.d x) = some x := (rfl : _ = _).trans rfl
theorem gEq_d {x y : D} (hx : x.shp = true) (hy : y.shp = true) : gEq (.d x) (.d y) S = some (.d (.bl (x.eqv y)), S) := by simp [gEq, hx, hy]
theorem gNe_d {x y : D} (hx : x.shp = true) (hy : y.shp = true) : gNe (.d x) (.d y) S = some (.d (.bl (!x.eqv y)), S) := by simp [gNe, hx, hy]
@[simp] theorem shp_int : D.shp (.int i) = true := (rfl : _ = _).trans rfl
@[simp] theorem shp_bl (b : Bool) : D.shp (.bl b) = true := (rfl : _ = _).trans rfl
@[simp] theorem shp_non : D.shp .non = true := (rfl : _ = _).trans rfl
@[simp] theorem gEq_int : gEq (.d (.int i)) (.d (.int j)) S = some (.d (.bl (decide (i = j))), S) := by rw [gEq_d rfl rfl, eqv_int]
@[simp] theorem gNe_int : gNe (.d (.int i)) (.d (.int j)) S = some (.d (.bl (!decide (i = j))), S) := by rw [gNe_d rfl rfl, eqv_int]
@[simp] theorem eqv_bl (a b : Bool) : D.eqv (.bl a) (.bl b) = (a == b) := by simp [D.eqv, D.py, PyData.eqv]
@[simp] theorem gEq_bl (a b : Bool) : gEq (.d (.bl a)) (.d (.bl b)) S = some (.d (.bl (a == b)), S) := by rw [gEq_d rfl rfl, eqv_bl]
@[simp] theorem gNe_bl (a b : Bool) : gNe (.d (.bl a)) (.d (.bl b)) S = some (.d (.bl (!(a == b))), S) := by rw [gNe_d rfl rfl, eqv_bl]
end
end MW
end
section
set_option maxRecDepth 100000
/-! MW, part k: fractions as data. -/
namespace MW
open PySem L2
/-- a fraction as the program writes it -/
def fr (r : Rat) : D := .tup [.int r.num, .int r.den]
theorem fr_eq (r : Rat) : fr r = .tup [.int r.num, .int r.den] := rfl
theorem fr_inj {r s : Rat} : fr r = fr s ↔ r = s := by
  constructor
  · intro h
    unfold fr at h
    injection h with h
    injection h with h1 h2
    injection h2 with h2 _
    injection h1 with h1
    injection h2 with h2
    exact Rat.ext h1 (by exact_mod_cast h2)
  · rintro rfl; rfl
/-- its size -/
structure Sz (r : Rat) (n : Nat) : Prop where
  num : r.num.natAbs < 2 ^ n
  den : r.den < 2 ^ n
theorem Sz.mono {r : Rat} {n m : Nat} (h : Sz r n) (hm : n ≤ m) : Sz r m :=
  ⟨Nat.lt_of_lt_of_le h.num (Nat.pow_le_pow_right (by decide) hm), Nat.lt_of_lt_of_le h.den (Nat.pow_le_pow_right (by decide) hm)⟩
theorem pow_lt_mul {x y a b : Nat} (h : x < 2 ^ a) (k : y < 2 ^ b) : x * y < 2 ^ (a + b) := by
  rw [Nat.pow_add]; exact Nat.mul_lt_mul'' h k
theorem sz_divInt {a b : Int} {n : Nat} (hb : b ≠ 0) (h1 : a.natAbs < 2 ^ n) (h2 : b.natAbs < 2 ^ n) : Sz (Rat.divInt a b) n := by
  have hg : 0 < b.gcd a := Int.gcd_pos_of_ne_zero_left a hb
  refine ⟨?_, ?_⟩
  · rw [Rat.num_divInt]
    refine Nat.lt_of_le_of_lt ?_ h1
    have hd : ((b.gcd a : Nat) : Int) ∣ b.sign * a := Int.dvd_trans (Int.gcd_dvd_right b a) (Int.dvd_mul_left _ _)
    rw [Int.natAbs_ediv_of_dvd hd, Int.natAbs_mul, Int.natAbs_sign_of_ne_zero hb, Nat.one_mul]
    exact Nat.div_le_self _ _
  · rw [Rat.den_divInt, if_neg hb]
    exact Nat.lt_of_le_of_lt (Nat.div_le_self _ _) h2
theorem Sz.add {r s : Rat} {n m : Nat} (h : Sz r n) (k : Sz s m) : Sz (r + s) (n + m + 1) := by
  rw [show r + s = Rat.divInt (r.num * s.den + s.num * r.den) (r.den * s.den) by
    rw [Rat.add_def, Rat.normalize_eq_mkRat, ← Rat.divInt_ofNat]; simp]
  have e1 := pow_lt_mul h.num k.den
  have e2 := pow_lt_mul k.num h.den
  have e3 := pow_lt_mul h.den k.den
  refine sz_divInt ?_ ?_ ?_
  · have := r.den_pos; have := s.den_pos
    exact_mod_cast Nat.ne_of_gt (Nat.mul_pos r.den_pos s.den_pos)
  · refine Nat.lt_of_le_of_lt (Int.natAbs_add_le _ _) ?_
    rw [Int.natAbs_mul, Int.natAbs_mul, Int.natAbs_natCast, Int.natAbs_natCast, Nat.pow_succ]
    rw [Nat.add_comm m n] at e2
    omega
  · rw [Int.natAbs_mul, Int.natAbs_natCast, Int.natAbs_natCast, Nat.pow_succ]
    omega
theorem neg_num (r : Rat) : (-r).num = -r.num := rfl
theorem neg_den (r : Rat) : (-r).den = r.den := rfl
theorem Sz.neg {r : Rat} {n : Nat} (h : Sz r n) : Sz (-r) n := ⟨by rw [neg_num, Int.natAbs_neg]; exact h.num, by rw [neg_den]; exact h.den⟩
theorem Sz.sub {r s : Rat} {n m : Nat} (h : Sz r n) (k : Sz s m) : Sz (r - s) (n + m + 1) := by rw [Rat.sub_eq_add_neg]; exact h.add k.neg
theorem mul_divInt (r s : Rat) : r * s = Rat.divInt (r.num * s.num) (r.den * s.den) := by
  rw [Rat.mul_def, Rat.normalize_eq_mkRat, ← Rat.divInt_ofNat]; simp
theorem add_divInt (r s : Rat) : r + s = Rat.divInt (r.num * s.den + s.num * r.den) (r.den * s.den) := by
  rw [Rat.add_def, Rat.normalize_eq_mkRat, ← Rat.divInt_ofNat]; simp
theorem sub_divInt (r s : Rat) : r - s = Rat.divInt (r.num * s.den - s.num * r.den) (r.den * s.den) := by
  rw [Rat.sub_eq_add_neg, add_divInt, neg_num, neg_den]
  congr 1
  rw [Int.neg_mul]; rfl
theorem div_divInt (r s : Rat) : r / s = Rat.divInt (r.num * s.den) (r.den * s.num) := by
  have e : s⁻¹ = Rat.divInt s.den s.num := by
    conv => lhs; rw [← Rat.num_divInt_den s]
    rw [Rat.inv_divInt]
  rw [Rat.div_def, e]
  conv => lhs; rw [← Rat.num_divInt_den r]
  rw [Rat.divInt_mul_divInt]
theorem Sz.mul {r s : Rat} {n m : Nat} (h : Sz r n) (k : Sz s m) : Sz (r * s) (n + m) := by
  rw [mul_divInt]
  refine sz_divInt ?_ ?_ ?_
  · exact_mod_cast Nat.ne_of_gt (Nat.mul_pos r.den_pos s.den_pos)
  · rw [Int.natAbs_mul]; exact pow_lt_mul h.num k.num
  · rw [Int.natAbs_mul, Int.natAbs_natCast, Int.natAbs_natCast]; exact pow_lt_mul h.den k.den
theorem Sz.div {r s : Rat} {n m : Nat} (h : Sz r n) (k : Sz s m) (hs : s ≠ 0) : Sz (r / s) (n + m) := by
  rw [div_divInt]
  have hn : s.num ≠ 0 := fun z => hs (Rat.num_eq_zero.mp z)
  refine sz_divInt ?_ ?_ ?_
  · have h1 : (r.den : Int) ≠ 0 := by exact_mod_cast r.den_nz
    exact Int.mul_ne_zero h1 hn
  · rw [Int.natAbs_mul, Int.natAbs_natCast]; exact pow_lt_mul h.num k.den
  · rw [Int.natAbs_mul, Int.natAbs_natCast]; exact pow_lt_mul h.den k.num
/-- what `reduced` reckons -/
theorem red_num {a b : Int} (hb : b ≠ 0) (g : Int) (hg : g = (Nat.gcd a.natAbs b.natAbs : Int) * (if b > 0 then 1 else -1)) : a.fdiv g = (Rat.divInt a b).num ∧ b.fdiv g = ((Rat.divInt a b).den : Int) ∧ g ≠ 0 ∧ g.natAbs ≤ b.natAbs := by
  have e : Nat.gcd a.natAbs b.natAbs = b.gcd a := by rw [Int.gcd_eq_natAbs_gcd_natAbs, Nat.gcd_comm]
  rw [e] at hg
  have hpos : 0 < b.gcd a := Int.gcd_pos_of_ne_zero_left a hb
  have ha : ((b.gcd a : Nat) : Int) ∣ a := Int.gcd_dvd_right b a
  have hbd : ((b.gcd a : Nat) : Int) ∣ b := Int.gcd_dvd_left b a
  obtain ⟨x, hx⟩ := ha
  obtain ⟨y, hy⟩ := hbd
  have hle : b.gcd a ≤ b.natAbs := Nat.le_of_dvd (by omega) (by rw [Int.gcd_eq_natAbs_gcd_natAbs]; exact Nat.gcd_dvd_left _ _)
  generalize hG : ((b.gcd a : Nat) : Int) = G at *
  have hG0 : G ≠ 0 := by omega
  rw [Rat.num_divInt, Rat.den_divInt, if_neg hb]
  rw [hG]
  have hden : ((b.natAbs / b.gcd a : Nat) : Int) = (b.natAbs : Int) / G := by rw [← hG]; simp
  rw [hden]
  by_cases hp : b > 0
  · rw [if_pos hp, Int.mul_one] at hg
    rw [hg, Int.sign_eq_one_of_pos hp, Int.one_mul]
    refine ⟨?_, ?_, hG0, by omega⟩
    · rw [Int.fdiv_eq_ediv_of_nonneg _ (by omega)]
    · rw [Int.fdiv_eq_ediv_of_nonneg _ (by omega)]
      congr 1; omega
  · rw [if_neg hp] at hg
    have hn : b < 0 := by omega
    rw [hg, Int.sign_eq_neg_one_of_neg hn]
    refine ⟨?_, ?_, by omega, by omega⟩
    · have : a = (G * -1) * (-x) := by grind
      rw [this, Int.mul_fdiv_cancel_left _ (by omega)]
      have : -1 * (G * -1 * -x) = G * (-x) := by grind
      rw [this, Int.mul_ediv_cancel_left _ hG0]
    · have e1 : b = (G * -1) * (-y) := by grind
      have e2 : (b.natAbs : Int) = G * (-y) := by
        have : (b.natAbs : Int) = -b := by omega
        grind
      rw [e2, Int.mul_ediv_cancel_left _ hG0]
      conv => lhs; rw [e1]
      rw [Int.mul_fdiv_cancel_left _ (by omega)]
end MW
end
section
set_option maxRecDepth 100000
/-! MW, part l: loops, comprehensions, the law's box, by plain words. -/
namespace MW
open PySem L2
theorem wk_none (xs : List D) (S : Sto) : Wk.ok ⟨xs, none⟩ S = true := rfl
/-- a comprehension whose parts change nothing -/
theorem lcM_pure {k : Wk} {t : CT} {c : MB} {e : ME} {env : Env} {S : Sto} (hk : k.ok S = true) (p : D → Bool) (f : D → D) : ∀ {xs acc : List D}, (∀ x ∈ xs, ∃ env1, t.set x env = some env1 ∧ c env1 S = some (p x, S) ∧ (p x = true → e env1 S = some (.d (f x), S))) → acc.length + xs.length ≤ sizeLine →
    lcM k t c e env xs acc S = some (acc ++ (xs.filter p).map f, S)
  | [], acc, _, _ => by simp [lcM, hk]
  | x :: xs, acc, h, hz => by
    obtain ⟨env1, h1, h2, h3⟩ := h x List.mem_cons_self
    have hl : acc.length < sizeLine := by simp at hz; omega
    have ih := fun (acc : List D) (hz : acc.length + xs.length ≤ sizeLine) => lcM_pure hk p f (xs := xs) (acc := acc) (fun y hy => h y (List.mem_cons_of_mem _ hy)) hz
    unfold lcM
    rw [if_pos hk, h1]
    simp only [Option.bind_some, h2]
    by_cases hp : p x = true
    · rw [if_pos hp, h3 hp]
      simp only [Option.bind_some, give_d, give_nil]
      rw [if_pos hl, ih _ (by simp at hz ⊢; omega)]
      simp [hp]
    · rw [if_neg hp, ih _ (by simp at hz ⊢; omega)]
      simp [hp]
theorem mLc_pure {mk : Mk} {fi : MI} {t : CT} {c : MB} {e : ME} {vs : List Nat} {env : Env} {S S1 : Sto} {k : Wk} (hin : t.in vs = true) (hi : fi env S = some (k, S1)) (hk : k.ok S1 = true) (p : D → Bool) (f : D → D) (h : ∀ x ∈ k.its, ∃ env1, t.set x (wipeE env vs) = some env1 ∧ c env1 S1 = some (p x, S1) ∧ (p x = true → e env1 S1 = some (.d (f x), S1)))
    (hz : k.its.length ≤ sizeLine) : mLc mk fi t c e vs env S = some (newL mk ((k.its.filter p).map f) S1) := by
  unfold mLc
  rw [if_pos hin, hi]
  simp only [Option.bind_some]
  rw [lcM_pure hk p f h (by simpa using hz)]
  simp
/-- a loop by what holds between two turns, no turn leaves it -/
theorem forM_ok {k : Wk} {g : MG} {b : MS} (I : List D → Env → Sto → Prop) (hk : ∀ r env S, I r env S → k.ok S = true)
    (step : ∀ x r env S, I (x :: r) env S → ∃ env1 S1 e2 S2, g (.d x) env S = some (env1, S1) ∧ b env1 S1 = some (.nx e2 S2) ∧ I r e2 S2) : ∀ (r : List D) (env : Env) (S : Sto), I r env S → ∃ e' S', forM k g b r env S = some (.nx e' S') ∧ I [] e' S'
  | [], env, S, h => ⟨env, S, by simp [forM, hk _ _ _ h], h⟩
  | x :: r, env, S, h => by
    obtain ⟨env1, S1, e2, S2, h1, h2, h3⟩ := step x r env S h
    obtain ⟨e', S', h4, h5⟩ := forM_ok I hk step r e2 S2 h3
    refine ⟨e', S', ?_, h5⟩
    unfold forM
    rw [if_pos (hk _ _ _ h), h1]
    simp only [Option.bind_some, h2]
    exact h4
@[simp] theorem gEq_nil (S : Sto) : gEq (.d (.lst [])) (.d (.lst [])) S = some (.d (.bl true), S) := by
  rw [gEq_d rfl rfl]; rfl
@[simp] theorem gIs_non (x : D) (S : Sto) : gOr gIsN gIsB (.d x) (.d .non) S = some (.d (.bl x.isNon), S) := (rfl : _ = _).trans rfl
@[simp] theorem gIs_bl (a b : Bool) (S : Sto) : gOr gIsN gIsB (.d (.bl a)) (.d (.bl b)) S = some (.d (.bl (decide (a = b))), S) := (rfl : _ = _).trans rfl
@[simp] theorem isNon_non : D.isNon .non = true := (rfl : _ = _).trans rfl
@[simp] theorem isNon_bl (b : Bool) : D.isNon (.bl b) = false := (rfl : _ = _).trans rfl
@[simp] theorem isNon_int (b : Int) : D.isNon (.int b) = false := (rfl : _ = _).trans rfl
@[simp] theorem isNon_tup (b : List D) : D.isNon (.tup b) = false := (rfl : _ = _).trans rfl
@[simp] theorem isNon_lst (b : List D) : D.isNon (.lst b) = false := (rfl : _ = _).trans rfl
/-- data of numbers, truths, lists and tuples, less than n deep -/
def okD : Nat → D → Prop
  | 0, _ => False
  | n + 1, .tup xs => xs.length ≤ 100000 ∧ ∀ x ∈ xs, okD n x
  | n + 1, .lst xs => xs.length ≤ 100000 ∧ ∀ x ∈ xs, okD n x
  | _ + 1, .str _ => False
  | _ + 1, _ => True
theorem miRange1_run {env : Env} {S S1 : Sto} {f : ME} {j : Int} (h : f env S = some (.d (.int j), S1)) (h1 : 0 ≤ j) (h2 : j ≤ 1000000) : miRange1 (mCons f mNil) env S = some (⟨upFrom 0 j.toNat, none⟩, S1) := by
  unfold miRange1
  simp [h]
  omega
theorem upFrom_mem {lo : Int} {n : Nat} {x : D} (h : x ∈ upFrom lo n) : ∃ i : Nat, i < n ∧ x = .int (lo + i) := by
  unfold upFrom at h
  obtain ⟨i, h1, h2⟩ := List.mem_map.mp h
  exact ⟨i, by simpa using h1, h2.symm⟩
@[simp] theorem upFrom_length (lo : Int) (n : Nat) : (upFrom lo n).length = n := by simp [upFrom]
theorem gLen_scr (ns : List Int) (S : Sto) : gLen [.scr ns] S = some (.d (.int ns.length), S) := by
  unfold gLen
  simp [W.seq, W.list]
theorem gIx_scr {ns : List Int} {k : Nat} (h : k < ns.length) (S : Sto) : gIx (.scr ns) (.d (.int k)) S = some (.d (.int ns[k]), S) := by
  unfold gIx
  simp [W.seq, W.list, MW.atI_nat, h]
/-- script[:1] -/
theorem gSl_scr1 (ns : List Int) (S : Sto) : gSl .pure (.scr ns) none (some 1) S = some (.d (.lst ((ns.take 1).map D.int)), S) := by
  have e : cutD (ns.map D.int) none (some 1) = (ns.take 1).map D.int := by
    unfold cutD
    rw [HT.sIx_none]
    have := HT.sIx_nat (ns.map D.int).length (ns.map D.int).length 1
    have h2 : HT.sIx (ns.map D.int).length (ns.map D.int).length (some 1) = min 1 (ns.map D.int).length := this
    rw [h2]
    cases ns with
    | nil => rfl
    | cons a r => simp
  unfold gSl
  simp [W.list, e]
theorem gSum_lst (is : List Int) (S : Sto) : gIs (fun is => some (.int is.sum)) [.d (.lst (is.map D.int))] S = some (.d (.int is.sum), S) := by
  unfold gIs
  simp [W.list, ints_map]
/-- the box of draws at n, at most c of them mixed so far -/
def Bx (S : Sto) (n c : Nat) : Prop := ∃ (b0 : Int) (fl : Bool) (sd c' : Int), S[n]? = some (.lst [.int b0, .bl fl, .int sd, .int c']) ∧ 0 ≤ b0 ∧ 0 ≤ sd ∧ sd < 2147483648 ∧ 0 ≤ c' ∧ c' ≤ c
theorem Bx.mono {S : Sto} {n c d : Nat} (h : Bx S n c) (hc : c ≤ d) : Bx S n d := by
  obtain ⟨b0, fl, sd, c', h1, h2, h3, h4, h5, h6⟩ := h
  exact ⟨b0, fl, sd, c', h1, h2, h3, h4, h5, by omega⟩
theorem Bx.lt {S : Sto} {n c : Nat} (h : Bx S n c) : n < S.length := by
  obtain ⟨b0, fl, sd, c', h1, _⟩ := h
  exact (List.getElem?_eq_some_iff.mp h1).1
@[simp] theorem take_set (S : Sto) (n : Nat) (o : Ob) : (S.set n o).take S.length = S.set n o := List.take_of_length_le (by simp)
@[simp] theorem take_self (S : Sto) : S.take S.length = S := List.take_length
theorem set_set (S : Sto) (n : Nat) (o u : Ob) : (S.set n o).set n u = S.set n u := List.set_set ..
theorem get_set {S : Sto} {n : Nat} {o : Ob} (h : n < S.length) : (S.set n o)[n]? = some o := List.getElem?_set_self h
theorem get_set_ne {S : Sto} {n m : Nat} {o : Ob} (h : n ≠ m) : (S.set n o)[m]? = S[m]? := List.getElem?_set_ne h
/-! two lists of a def's own behind what stood -/
theorem g2a (A : Sto) (a b : Ob) {n : Nat} (h : n = A.length) : (A ++ [a, b])[n]? = some a := by subst h; simp
theorem g2b (A : Sto) (a b : Ob) {n : Nat} (h : n = A.length + 1) : (A ++ [a, b])[n]? = some b := by subst h; simp
theorem s2a (A : Sto) (a b c : Ob) {n : Nat} (h : n = A.length) : (A ++ [a, b]).set n c = A ++ [c, b] := by subst h; simp
theorem s2b (A : Sto) (a b c : Ob) {n : Nat} (h : n = A.length + 1) : (A ++ [a, b]).set n c = A ++ [a, c] := by
  subst h
  rw [List.set_append_right _ _ (by omega)]
  have : A.length + 1 - A.length = 1 := by omega
  rw [this]; rfl
theorem g1 (A : Sto) (a : Ob) {n : Nat} (h : n = A.length) : (A ++ [a])[n]? = some a := by subst h; simp
theorem s1 (A : Sto) (a c : Ob) {n : Nat} (h : n = A.length) : (A ++ [a]).set n c = A ++ [c] := by subst h; simp
theorem set_app (A B : Sto) (c : Ob) {n : Nat} (h : n < A.length) : (A ++ B).set n c = A.set n c ++ B := by rw [List.set_append_left _ _ h]
theorem Bx.app {S T : Sto} {n c : Nat} (h : Bx S n c) : Bx (S ++ T) n c := by
  have hl := h.lt
  obtain ⟨b0, fl, sd, c', h1, h2⟩ := h
  exact ⟨b0, fl, sd, c', by rw [List.getElem?_append_left hl]; exact h1, h2⟩
theorem Bx.of_app {S T : Sto} {n c : Nat} (h : Bx (S ++ T) n c) (hl : n < S.length) : Bx S n c := by
  obtain ⟨b0, fl, sd, c', h1, h2⟩ := h
  exact ⟨b0, fl, sd, c', by rw [List.getElem?_append_left hl] at h1; exact h1, h2⟩
theorem list_app {S T : Sto} {w : W} {xs : List D} (h : W.list S w = some xs) : W.list (S ++ T) w = some xs := by
  cases w with
  | d x => cases x <;> exact h
  | scr ns => exact h
  | ref m =>
    have h' : (match S[m]? with | some (.lst xs) => some xs | _ => none) = some xs := h
    show (match (S ++ T)[m]? with | some (.lst xs) => some xs | _ => none) = some xs
    have hl : m < S.length := by
      cases q : S[m]? with
      | none => rw [q] at h'; cases h'
      | some o => exact (List.getElem?_eq_some_iff.mp q).1
    rw [List.getElem?_append_left hl]
    exact h'
theorem list_ref {S : Sto} {n : Nat} {xs : List D} (h : S[n]? = some (.lst xs)) : W.list S (.ref n) = some xs := by
  show (match S[n]? with | some (.lst xs) => some xs | _ => none) = some xs
  rw [h]
theorem ty_ref {S : Sto} {n : Nat} {xs : List D} (h : S[n]? = some (.lst xs)) : W.ty S (.ref n) = some "list" := by
  show (W.list S (.ref n)).bind _ = _
  rw [list_ref h]; rfl
theorem get_lst {S : Sto} {w : W} {xs : List D} {k : Nat} (h : W.list S w = some xs) (hk : k < xs.length) : gIx w (.d (.int k)) S = some (.d xs[k], S) := by
  have hs : W.seq S w = some xs := by unfold W.seq; rw [h]
  cases w with
  | d x =>
    cases x with
    | lst ys => cases h; simp [MW.atI_nat, hk]
    | _ => cases h
  | scr ns => unfold gIx; simp [hs, MW.atI_nat, hk]
  | ref n => unfold gIx; simp [hs, MW.atI_nat, hk]
theorem get_at {S : Sto} {w : W} {xs : List D} {i : Int} {y : D} (h : W.list S w = some xs) (hk : atI xs i = some y) : gIx w (.d (.int i)) S = some (.d y, S) := by
  have hs : W.seq S w = some xs := by unfold W.seq; rw [h]
  cases w with
  | d x =>
    cases x with
    | lst ys => cases h; simp [hk]
    | _ => cases h
  | scr ns => unfold gIx; simp [hs, hk]
  | ref n => unfold gIx; simp [hs, hk]
theorem len_lst {S : Sto} {w : W} {xs : List D} (h : W.list S w = some xs) : gLen [w] S = some (.d (.int xs.length), S) := by
  have hs : W.seq S w = some xs := by unfold W.seq; rw [h]
  cases w with
  | d x =>
    cases x with
    | lst ys => cases h; simp
    | _ => cases h
  | scr ns => unfold gLen; simp [hs]
  | ref n => unfold gLen; simp [hs]
/-- a list that is not the box -/
theorem list_set {S : Sto} {w : W} {xs : List D} {n : Nat} {o : Ob} (h : W.list S w = some xs) (hn : w ≠ .ref n) : W.list (S.set n o) w = some xs := by
  cases w with
  | d x => cases x <;> exact h
  | scr ns => exact h
  | ref m =>
    have : n ≠ m := fun z => hn (by rw [z])
    have h' : (match S[m]? with | some (.lst xs) => some xs | _ => none) = some xs := h
    show (match (S.set n o)[m]? with | some (.lst xs) => some xs | _ => none) = some xs
    rw [get_set_ne this]
    exact h'
theorem seqIx {k n : Nat} (h : k < n) : seqIndex? (k : Int) n = some k := by
  have := (ixN_seq (n := n) (i := (k : Int)) (j := k) (by unfold ixN; rw [if_pos (by omega), if_pos (by omega)]; simp)).1
  exact this
theorem append_ref {S : Sto} {n : Nat} {xs : List D} {x : D} (h : S[n]? = some (.lst xs)) (hz : xs.length < 16777216) : gAppend (.ref n) [.d x] S = some (.d .non, S.set n (.lst (xs ++ [x]))) := by
  unfold gAppend
  simp [h, sizeLine_eq, hz]
theorem popAt_ref {S : Sto} {n k : Nat} {xs : List D} (h : S[n]? = some (.lst xs)) (hk : k < xs.length) (hz : xs.length < 16777216) : gPopAt (.ref n) [.d (.int k)] S = some (.d xs[k], S.set n (.lst (xs.eraseIdx k))) := by
  unfold gPopAt
  have h1 : (k : Int) < 9223372036854775808 := by omega
  have h2 : (-9223372036854775808 : Int) ≤ k := by omega
  simp [h, seqIx hk, hk, h1, h2]
theorem perm_erase {α : Type} {xs : List α} {k : Nat} (hk : k < xs.length) : xs.Perm (xs[k] :: xs.eraseIdx k) := by
  rw [List.eraseIdx_eq_take_drop_succ]
  have h : xs = xs.take k ++ (xs[k] :: xs.drop (k + 1)) := by
    rw [← List.drop_eq_getElem_cons hk, List.take_append_drop]
  conv => lhs; rw [h]
  exact List.perm_middle
end MW
end
section
set_option maxRecDepth 100000
/-! MW, part m: the order of data built of numbers and tuples; sorted, <, <=. -/
namespace MW
open PySem PySem.Spec PyProof.Rows L2

/-! ### rows of numbers in order -/
def llt : List Int → List Int → Bool
  | [], [] => false
  | [], _ :: _ => true
  | _ :: _, [] => false
  | x :: xs, y :: ys => decide (x < y) || (decide (x = y) && llt xs ys)
theorem llt_irr : ∀ x, llt x x = false
  | [] => rfl
  | x :: xs => by simp [llt, llt_irr xs]
theorem llt_asym : ∀ x y, llt x y = true → llt y x = false
  | [], [], _ => rfl
  | [], _ :: _, _ => rfl
  | _ :: _, [], h => by cases h
  | x :: xs, y :: ys, h => by
    simp only [llt, Bool.or_eq_true, decide_eq_true_eq, Bool.and_eq_true] at h
    simp only [llt, Bool.or_eq_false_iff, decide_eq_false_iff_not, Bool.and_eq_false_iff]
    rcases h with h | ⟨h, k⟩
    · exact ⟨by omega, .inl (by omega)⟩
    · exact ⟨by omega, .inr (llt_asym xs ys k)⟩
theorem llt_tr : ∀ x y z, llt y x = false → llt z y = false → llt z x = false
  | [], [], z, _, h => h
  | x :: xs, [], [], _, h => by cases x; all_goals simp [llt] at *
  | x :: xs, [], z :: zs, h, _ => by simp [llt] at h
  | x, y :: ys, [], _, h => by simp [llt] at h
  | [], y :: ys, z :: zs, _, _ => rfl
  | x :: xs, y :: ys, z :: zs, h1, h2 => by
    simp only [llt, Bool.or_eq_false_iff, decide_eq_false_iff_not, Bool.and_eq_false_iff] at h1 h2 ⊢
    refine ⟨by omega, ?_⟩
    by_cases e1 : y = x
    · by_cases e2 : z = y
      · exact .inr (llt_tr xs ys zs (h1.2.resolve_left (by omega)) (h2.2.resolve_left (by omega)))
      · exact .inl (by omega)
    · exact .inl (by omega)
theorem llt_eq : ∀ x y, llt x y = false → llt y x = false → x = y
  | [], [], _, _ => rfl
  | [], _ :: _, h, _ => by cases h
  | _ :: _, [], _, h => by cases h
  | x :: xs, y :: ys, h1, h2 => by
    simp only [llt, Bool.or_eq_false_iff, decide_eq_false_iff_not, Bool.and_eq_false_iff] at h1 h2
    have e : x = y := by omega
    rw [e, llt_eq xs ys (h1.2.resolve_left (by omega)) (h2.2.resolve_left (by omega))]
theorem llt_swo {α : Type} (f : α → List Int) : SrtO.Swo (fun x y => llt (f x) (f y)) := ⟨fun x y h => llt_asym _ _ h, fun x y z h k => llt_tr _ _ _ h k⟩
theorem llt_pre (p s t : List Int) {a b : Int} (h : a ≠ b) : llt (p ++ a :: s) (p ++ b :: t) = decide (a < b) := by
  induction p with
  | nil => simp [llt, h]
  | cons x p ih => simp [llt, ih]

/-! ### data of numbers and tuples -/
mutual
def pFlat : PyData → List Int
  | .int i => [i]
  | .tuple xs => pFlats xs
  | _ => []
def pFlats : List PyData → List Int
  | [] => [0]
  | x :: xs => 1 :: (pFlat x ++ pFlats xs)
end
mutual
def pCmp : PyData → PyData → Bool
  | .int _, .int _ => true
  | .tuple xs, .tuple ys => pCmps xs ys
  | _, _ => false
def pCmps : List PyData → List PyData → Bool
  | x :: xs, y :: ys => pCmp x y && pCmps xs ys
  | _, _ => true
end
def pLt (x y : PyData) : Bool := llt (pFlat x) (pFlat y)
def pLts (x y : List PyData) : Bool := llt (pFlats x) (pFlats y)
mutual
theorem pf : ∀ x y : PyData, pCmp x y = true → x = y ∨ ∃ p a b s t, a ≠ b ∧ pFlat x = p ++ a :: s ∧ pFlat y = p ++ b :: t
  | .int i, .int j, _ => by
    by_cases e : i = j
    · exact .inl (by rw [e])
    · exact .inr ⟨[], i, j, [], [], e, by simp [pFlat], by simp [pFlat]⟩
  | .tuple xs, .tuple ys, h => by
    rw [pCmp] at h
    rcases pfs xs ys h with e | e
    · exact .inl (by rw [e])
    · exact .inr (by simpa only [pFlat] using e)
  | .none, _, h | .bool _, _, h | .str _, _, h | .list _, _, h | .dict _, _, h => by simp [pCmp] at h
  | .int _, .none, h | .int _, .bool _, h | .int _, .str _, h | .int _, .list _, h | .int _, .tuple _, h | .int _, .dict _, h => by simp [pCmp] at h
  | .tuple _, .none, h | .tuple _, .bool _, h | .tuple _, .str _, h | .tuple _, .list _, h | .tuple _, .int _, h | .tuple _, .dict _, h => by simp [pCmp] at h
theorem pfs : ∀ xs ys : List PyData, pCmps xs ys = true → xs = ys ∨ ∃ p a b s t, a ≠ b ∧ pFlats xs = p ++ a :: s ∧ pFlats ys = p ++ b :: t
  | [], [], _ => .inl rfl
  | [], y :: ys, _ => .inr ⟨[], 0, 1, [], _, by decide, by simp [pFlats], by simp [pFlats]; rfl⟩
  | x :: xs, [], _ => .inr ⟨[], 1, 0, _, [], by decide, by simp [pFlats]; rfl, by simp [pFlats]⟩
  | x :: xs, y :: ys, h => by
    rw [pCmps, Bool.and_eq_true] at h
    rcases pf x y h.1 with e | ⟨p, a, b, s, t, n, e1, e2⟩
    · subst e
      rcases pfs xs ys h.2 with e | ⟨p, a, b, s, t, n, e1, e2⟩
      · exact .inl (by rw [e])
      · exact .inr ⟨1 :: (pFlat x ++ p), a, b, s, t, n, by simp [pFlats, e1], by simp [pFlats, e2]⟩
    · exact .inr ⟨1 :: p, a, b, s ++ pFlats xs, t ++ pFlats ys, n, by simp [pFlats, e1], by simp [pFlats, e2]⟩
end
theorem pLt_eq {x y : PyData} (h : pCmp x y = true) (h1 : pLt x y = false) (h2 : pLt y x = false) : x = y := by
  rcases pf x y h with e | ⟨p, a, b, s, t, n, e1, e2⟩
  · exact e
  · have := llt_eq _ _ h1 h2
    rw [e1, e2] at this
    have := List.append_cancel_left this
    exact absurd (List.cons.inj this).1 n
theorem pLts_cons {x y : PyData} {xs ys : List PyData} (h : pCmp x y = true) : pLts (x :: xs) (y :: ys) = true ↔ (x = y ∧ pLts xs ys = true) ∨ (x ≠ y ∧ pLt x y = true) := by
  unfold pLts pLt
  rcases pf x y h with e | ⟨p, a, b, s, t, n, e1, e2⟩
  · subst e
    have : ∀ p s t : List Int, llt (p ++ s) (p ++ t) = llt s t := fun p s t => by
      induction p with
      | nil => rfl
      | cons x p ih => simp [llt, ih]
    simp [pFlats, llt, this]
  · have ne : x ≠ y := fun z => by
      rw [z, e2] at e1
      exact n (List.cons.inj (List.append_cancel_left e1)).1.symm
    simp [pFlats, llt, e1, e2, ne, llt_pre _ _ _ n]
mutual
theorem pEqv : ∀ x y : PyData, pCmp x y = true → (PyData.eqv x y = true ↔ x = y)
  | .int i, .int j, _ => by simp [PyData.eqv]
  | .tuple xs, .tuple ys, h => by
    rw [pCmp] at h
    have := pEqvs xs ys h
    simp [PyData.eqv, this]
  | .none, _, h | .bool _, _, h | .str _, _, h | .list _, _, h | .dict _, _, h => by simp [pCmp] at h
  | .int _, .none, h | .int _, .bool _, h | .int _, .str _, h | .int _, .list _, h | .int _, .tuple _, h | .int _, .dict _, h => by simp [pCmp] at h
  | .tuple _, .none, h | .tuple _, .bool _, h | .tuple _, .str _, h | .tuple _, .list _, h | .tuple _, .int _, h | .tuple _, .dict _, h => by simp [pCmp] at h
theorem pEqvs : ∀ xs ys : List PyData, pCmps xs ys = true → (PyData.eqvAll xs ys = true ↔ xs = ys)
  | [], [], _ => by simp [PyData.eqvAll]
  | [], y :: ys, _ => by simp [PyData.eqvAll]
  | x :: xs, [], _ => by simp [PyData.eqvAll]
  | x :: xs, y :: ys, h => by
    rw [pCmps, Bool.and_eq_true] at h
    have h1 := pEqv x y h.1
    have h2 := pEqvs xs ys h.2
    simp [PyData.eqvAll, h1, h2]
end
mutual
theorem pSym : ∀ x y : PyData, pCmp x y = pCmp y x
  | .int i, .int j => by simp [pCmp]
  | .tuple xs, .tuple ys => by simp [pCmp, pSyms xs ys]
  | .none, y | .bool _, y | .str _, y | .list _, y | .dict _, y => by cases y <;> simp [pCmp]
  | .int _, .none | .int _, .bool _ | .int _, .str _ | .int _, .list _ | .int _, .tuple _ | .int _, .dict _ => by simp [pCmp]
  | .tuple _, .none | .tuple _, .bool _ | .tuple _, .str _ | .tuple _, .list _ | .tuple _, .int _ | .tuple _, .dict _ => by simp [pCmp]
theorem pSyms : ∀ xs ys : List PyData, pCmps xs ys = pCmps ys xs
  | [], [] => rfl
  | [], _ :: _ => by simp [pCmps]
  | _ :: _, [] => by simp [pCmps]
  | x :: xs, y :: ys => by rw [pCmps, pCmps, pSym x y, pSyms xs ys]
end
end MW
end
section
set_option maxRecDepth 100000
/-! MW, part n: the program's comparisons of such data. -/
namespace MW
open PySem PySem.Spec PyProof.Rows L2 PySem.SeqAt

def pAt (f : PyData → PyData → Bool) (xs ys : List PyData) (j : Nat) : Bool := f (xs.getD j .none) (ys.getD j .none)
theorem lexAt_shift (e r : Nat → Bool) (z : Bool) : ∀ (k i : Nat), Ob.lexAt e r z (i + 1) k = Ob.lexAt (fun j => e (j + 1)) (fun j => r (j + 1)) z i k
  | 0, _ => rfl
  | k + 1, i => by
    rw [Ob.lexAt_succ, Ob.lexAt_succ, lexAt_shift e r z k (i + 1)]
/-- what the program's row comparison says -/
theorem lexAt_rows (f : PyData → PyData → Bool) (F : List PyData → List PyData → Bool) (hF : ∀ x y xs ys, pCmp x y = true → (F (x :: xs) (y :: ys) = if PyData.eqv x y = true then F xs ys else f x y)) : ∀ (xs ys : List PyData), pCmps xs ys = true → (z : Bool) →
    (∀ k : Nat, ∀ l : Nat, xs.drop k = [] ∨ ys.drop k = [] → k = min xs.length ys.length → F (xs.drop k) (ys.drop k) = z) →
    Ob.lexAt (pairEq xs ys) (pAt f xs ys) z 0 (min xs.length ys.length) = F xs ys
  | [], ys, _, z, hz => by
    have := hz 0 0 (.inl rfl) (by simp)
    simp only [List.length_nil, Nat.zero_min, Ob.lexAt_zero]
    exact this.symm
  | x :: xs, [], _, z, hz => by
    have := hz 0 0 (.inr rfl) (by simp)
    simp only [List.length_nil, Nat.min_zero, Ob.lexAt_zero]
    exact this.symm
  | x :: xs, y :: ys, h, z, hz => by
    rw [pCmps, Bool.and_eq_true] at h
    have ih := lexAt_rows f F hF xs ys h.2 z (fun k l hk he => by
      have := hz (k + 1) l (by simpa using hk) (by simp; omega)
      simpa using this)
    have em : min (x :: xs).length (y :: ys).length = min xs.length ys.length + 1 := by simp only [List.length_cons]; omega
    rw [em, Ob.lexAt_succ, lexAt_shift]
    rw [hF x y xs ys h.1, ← ih]
    rfl
theorem pLts_rec (x y : PyData) (xs ys : List PyData) (h : pCmp x y = true) : pLts (x :: xs) (y :: ys) = if PyData.eqv x y = true then pLts xs ys else pLt x y := by
  have h1 := pLts_cons (xs := xs) (ys := ys) h
  have h2 := pEqv x y h
  by_cases e : x = y
  · rw [if_pos (h2.mpr e)]
    rw [Bool.eq_iff_iff, h1]
    simp [e]
  · rw [if_neg (fun z => e (h2.mp z))]
    rw [Bool.eq_iff_iff, h1]
    simp [e]
theorem pGe_rec (x y : PyData) (xs ys : List PyData) (h : pCmp x y = true) : (!pLts (y :: ys) (x :: xs)) = if PyData.eqv x y = true then (!pLts ys xs) else (!pLt y x) := by
  rw [pLts_rec y x ys xs (by rw [pSym]; exact h)]
  have e : PyData.eqv y x = PyData.eqv x y := by
    rw [Bool.eq_iff_iff, pEqv x y h, pEqv y x (by rw [pSym]; exact h)]
    exact eq_comm
  rw [e]
  split <;> rfl
theorem drop_min {α β : Type} : ∀ (xs : List α) (ys : List β), (xs.drop (min xs.length ys.length) = [] ↔ xs.length ≤ ys.length) ∧ (ys.drop (min xs.length ys.length) = [] ↔ ys.length ≤ xs.length)
  | xs, ys => by
    constructor
    · rw [List.drop_eq_nil_iff]; omega
    · rw [List.drop_eq_nil_iff]; omega
theorem pLts_nil : ∀ ys : List PyData, pLts [] ys = !ys.isEmpty
  | [] => by simp [pLts, pFlats, llt]
  | y :: ys => by simp [pLts, pFlats, llt]
theorem pLts_end : ∀ ys : List PyData, pLts ys [] = false
  | [] => by simp [pLts, pFlats, llt]
  | y :: ys => by simp [pLts, pFlats, llt]
theorem lexLt {xs ys : List PyData} (h : pCmps xs ys = true) : Ob.lexAt (pairEq xs ys) (pAt pLt xs ys) (decide (xs.length < ys.length)) 0 (min xs.length ys.length) = pLts xs ys :=
  lexAt_rows pLt pLts (fun x y xs ys h => pLts_rec x y xs ys h) xs ys h _ (fun k _ hk e => by
    obtain ⟨d1, d2⟩ := drop_min xs ys
    rw [e] at hk ⊢
    by_cases q : xs.length ≤ ys.length
    · rw [d1.mpr q, pLts_nil]
      by_cases q2 : ys.length ≤ xs.length
      · rw [d2.mpr q2]; simp; omega
      · have : ys.drop (min xs.length ys.length) ≠ [] := fun z => q2 (d2.mp z)
        have e2 : (ys.drop (min xs.length ys.length)).isEmpty = false := by simpa using this
        rw [e2]; simp; omega
    · rw [d2.mpr (by omega), pLts_end]; simp; omega)
theorem lexLe {xs ys : List PyData} (h : pCmps xs ys = true) : Ob.lexAt (pairEq xs ys) (pAt (fun x y => !pLt y x) xs ys) (decide (xs.length ≤ ys.length)) 0 (min xs.length ys.length) = !pLts ys xs :=
  lexAt_rows (fun x y => !pLt y x) (fun xs ys => !pLts ys xs) (fun x y xs ys h => pGe_rec x y xs ys h) xs ys h _ (fun k _ hk e => by
    obtain ⟨d1, d2⟩ := drop_min xs ys
    rw [e] at hk ⊢
    by_cases q : xs.length ≤ ys.length
    · rw [d1.mpr q, pLts_end]; simp; omega
    · rw [d2.mpr (by omega), pLts_nil]
      have : xs.drop (min xs.length ys.length) ≠ [] := fun z => q (d1.mp z)
      have e2 : (xs.drop (min xs.length ys.length)).isEmpty = false := by simpa using this
      rw [e2]; simp; omega)
theorem readsAll_at {h : Heap} : ∀ {vs : List Value} {ds : List PyData} {as : List Addr}, ReadsAll h vs ds as → vs.length = ds.length
  | _, _, _, .nil => rfl
  | _, _, _, .cons _ r => by simp [readsAll_at r]
mutual
theorem rc_lt : ∀ (x y : PyData) (A : Around) (s : Shared) (u v : Value) (as bs : List Addr), Reads s.heap u x as → Reads s.heap v y bs → pCmp x y = true → x.canLay0 = true → y.canLay0 = true → A.units + min x.depth y.depth < cLine →
    Ob.RcOp .Lt A s u v (pLt x y) ∧ Ob.RcOp .LtE A s u v (!pLt y x)
  | .int i, .int j, A, s, _, _, _, _, ra, rb, _, _, _, _ => by
    cases ra
    cases rb
    have e1 : pLt (.int i) (.int j) = decide (i < j) := by simp [pLt, pFlat, llt]
    have e2 : (!pLt (.int j) (.int i)) = decide (i ≤ j) := by
      have : pLt (.int j) (.int i) = decide (j < i) := by simp [pLt, pFlat, llt]
      rw [this, Bool.eq_iff_iff]
      simp
    rw [e1, e2]
    exact ⟨Ob.RcOp.lt_int _ _ _ _, Ob.RcOp.le_int _ _ _ _⟩
  | .tuple xs, .tuple ys, A, s, _, _, _, _, ra, rb, h, ha, hb, hu => by
    rw [pCmp] at h
    cases ra with
    | @tuple l o vs n _ _ h1 h2 h3 h4 =>
    cases rb with
    | @tuple l' o' vs' n' _ _ k1 k2 k3 k4 =>
    have hl : s.heap.IsTuple l vs := ⟨_, h1, h2, _, h3⟩
    have hl' : s.heap.IsTuple l' vs' := ⟨_, k1, k2, _, k3⟩
    have n1 : vs.size = xs.length := by simpa using readsAll_at h4
    have n2 : vs'.size = ys.length := by simpa using readsAll_at k4
    have ha' : PyData.canLayAll0 xs = true := ha
    have hb' : PyData.canLayAll0 ys = true := hb
    have hu' : A.units + min (PyData.depthAll xs + 1) (PyData.depthAll ys + 1) < cLine := hu
    have R := rc_lts xs ys A.in1 s vs.toList vs'.toList _ _ h4 k4 h ha' hb' (room_in hu')
    have E := eqAt_readsAll xs ys A.in1 s vs.toList vs'.toList _ _ h4 k4 ha' hb' (room_in hu')
    have eA : ∀ j (j1 : j < vs.size) (j2 : j < vs'.size), EqAt A.in1 s vs[j] vs'[j] (pairEq xs ys j) := fun j j1 j2 => by
      have := E j (by simpa using j1) (by simpa using j2)
      simpa using this
    have e1 : pLt (.tuple xs) (.tuple ys) = pLts xs ys := rfl
    have e2 : pLt (.tuple ys) (.tuple xs) = pLts ys xs := rfl
    refine ⟨?_, ?_⟩
    · rw [e1, ← lexLt h, ← n1, ← n2]
      exact Ob.RcOp.tuples_lt hl hl' (room_here hu) eA fun j j1 j2 _ => by
        have := (R j (by simpa using j1) (by simpa using j2)).1
        simpa using this
    · rw [e2, ← lexLe h, ← n1, ← n2]
      exact Ob.RcOp.tuples_le hl hl' (room_here hu) eA fun j j1 j2 _ => by
        have := (R j (by simpa using j1) (by simpa using j2)).2
        simpa using this
  | .none, _, _, _, _, _, _, _, _, _, h, _, _, _ | .bool _, _, _, _, _, _, _, _, _, _, h, _, _, _ | .str _, _, _, _, _, _, _, _, _, _, h, _, _, _ | .list _, _, _, _, _, _, _, _, _, _, h, _, _, _ | .dict _, _, _, _, _, _, _, _, _, _, h, _, _, _ => by simp [pCmp] at h
  | .int _, .none, _, _, _, _, _, _, _, _, h, _, _, _ | .int _, .bool _, _, _, _, _, _, _, _, _, h, _, _, _ | .int _, .str _, _, _, _, _, _, _, _, _, h, _, _, _ | .int _, .list _, _, _, _, _, _, _, _, _, h, _, _, _ | .int _, .tuple _, _, _, _, _, _, _, _, _, h, _, _, _ | .int _, .dict _, _, _, _, _, _, _, _, _, h, _, _, _ => by simp [pCmp] at h
  | .tuple _, .none, _, _, _, _, _, _, _, _, h, _, _, _ | .tuple _, .bool _, _, _, _, _, _, _, _, _, h, _, _, _ | .tuple _, .str _, _, _, _, _, _, _, _, _, h, _, _, _ | .tuple _, .list _, _, _, _, _, _, _, _, _, h, _, _, _ | .tuple _, .int _, _, _, _, _, _, _, _, _, h, _, _, _ | .tuple _, .dict _, _, _, _, _, _, _, _, _, h, _, _, _ => by simp [pCmp] at h
theorem rc_lts : ∀ (xs ys : List PyData) (A : Around) (s : Shared) (vs ws : List Value) (as bs : List Addr), ReadsAll s.heap vs xs as → ReadsAll s.heap ws ys bs → pCmps xs ys = true → PyData.canLayAll0 xs = true → PyData.canLayAll0 ys = true →
    A.units + min (PyData.depthAll xs) (PyData.depthAll ys) < cLine → ∀ j (h1 : j < vs.length) (h2 : j < ws.length), Ob.RcOp .Lt A s vs[j] ws[j] (pAt pLt xs ys j) ∧ Ob.RcOp .LtE A s vs[j] ws[j] (pAt (fun x y => !pLt y x) xs ys j)
  | [], _, _, _, _, _, _, _, ra, _, _, _, _, _, j, h1, _ => by cases ra; exact absurd h1 (Nat.not_lt_zero _)
  | _ :: _, [], _, _, _, _, _, _, _, rb, _, _, _, _, j, _, h2 => by cases rb; exact absurd h2 (Nat.not_lt_zero _)
  | x :: xs, y :: ys, A, s, _, _, _, _, ra, rb, h, ha, hb, hu, j, h1, h2 => by
    rw [pCmps, Bool.and_eq_true] at h
    have ha' : x.canLay0 = true ∧ PyData.canLayAll0 xs = true := by simpa [PyData.canLayAll0] using ha
    have hb' : y.canLay0 = true ∧ PyData.canLayAll0 ys = true := by simpa [PyData.canLayAll0] using hb
    cases ra with
    | cons r rs =>
      cases rb with
      | cons r' rs' =>
        cases j with
        | zero => exact rc_lt x y A s _ _ _ _ r r' h.1 ha'.1 hb'.1 (room_head hu)
        | succ j => exact rc_lts xs ys A s _ _ _ _ rs rs' h.2 ha'.2 hb'.2 (room_tail hu) j (by simpa using h1) (by simpa using h2)
end
/-! ### as operators of the mirror -/
def D.lt (x y : D) : Bool := pLt x.py y.py
def D.cmp (x y : D) : Bool := pCmp x.py y.py
def gLtD : W → W → Sto → Option (W × Sto) := fun x y S => match x, y with
  | .d a, .d b => if D.cmp a b = true ∧ a.shp = true ∧ b.shp = true then some (.d (.bl (D.lt a b)), S) else none
  | _, _ => none
def gLeD : W → W → Sto → Option (W × Sto) := fun x y S => match x, y with
  | .d a, .d b => if D.cmp a b = true ∧ a.shp = true ∧ b.shp = true then some (.d (.bl (!D.lt b a)), S) else none
  | _, _ => none
section
variable {X : Cx}
def rCmpD (K : PySem.W.Frag) (f : PyData → PyData → Bool) : R2 := fun x y H Q => ∃ d e, Dp K H x d ∧ Dp K H y e ∧ pCmp d e = true ∧ shaped d = true ∧ shaped e = true ∧ Q (.bl (f d e)) H
theorem op_ltD (hu : X.A.units + 64 < cLine) : OpR X (compareOp .Lt) (rCmpD X.K pLt) := by
  intro pins s σ H x y v u Q I rx ry h
  obtain ⟨d, e, hd, he, hc, sd, se, q⟩ := h
  obtain ⟨as, r1⟩ := Dp.reads I d x v hd rx
  obtain ⟨bs, r2⟩ := Dp.reads I e y u he ry
  exact (rc_lt d e X.A s v u as bs r1 r2 hc (canLay_of_shaped sd) (canLay_of_shaped se) (room_of_shaped sd hu)).1 X.prog X.w X.xe (EP X pins σ Q) ⟨.bl _, H, I, rfl, q⟩
theorem op_leD (hu : X.A.units + 64 < cLine) : OpR X (compareOp .LtE) (rCmpD X.K fun x y => !pLt y x) := by
  intro pins s σ H x y v u Q I rx ry h
  obtain ⟨d, e, hd, he, hc, sd, se, q⟩ := h
  obtain ⟨as, r1⟩ := Dp.reads I d x v hd rx
  obtain ⟨bs, r2⟩ := Dp.reads I e y u he ry
  exact (rc_lt d e X.A s v u as bs r1 r2 hc (canLay_of_shaped sd) (canLay_of_shaped se) (room_of_shaped sd hu)).2 X.prog X.w X.xe (EP X pins σ Q) ⟨.bl _, H, I, rfl, q⟩
theorem om_ltD {k : Nat} (hr : Room k X.A) : OpM X (compareOp .Lt) gLtD := by
  refine ⟨_, op_ltD hr.units, fun H S m x y v u w S' Q rl rx ry e k => ?_⟩
  unfold gLtD at e
  split at e
  · split at e
    · rename_i a b hz
      cases e
      exact ⟨_, _, DR.dp rx, DR.dp ry, hz.1, hz.2.1, hz.2.2, k H m _ rl .refl WR.bl⟩
    · cases e
  · cases e
theorem om_leD {k : Nat} (hr : Room k X.A) : OpM X (compareOp .LtE) gLeD := by
  refine ⟨_, op_leD hr.units, fun H S m x y v u w S' Q rl rx ry e k => ?_⟩
  unfold gLeD at e
  split at e
  · split at e
    · rename_i a b hz
      cases e
      exact ⟨_, _, DR.dp rx, DR.dp ry, hz.1, hz.2.1, hz.2.2, k H m _ rl .refl WR.bl⟩
    · cases e
  · cases e
end
end MW
end
section
set_option maxRecDepth 100000
/-! MW, part o: sorted. -/
namespace MW
open PySem PySem.Spec PyProof.Rows L2 PySem.SeqAt

structure SrtC (ds : List PyData) : Prop where
  cmp : ∀ x ∈ ds, ∀ y ∈ ds, pCmp x y = true
  shp : ∀ x ∈ ds, shaped x = true
  ne : ∀ x ∈ ds, x ≠ .tuple []
mutual
theorem reads_keep {h h' : Heap} (k : ∀ b o, h.get? b = some o → o.cls = .type "tuple" → h'.get? b = some o) : ∀ {v : Value} {d : PyData} {as : List Addr}, pCmp d d = true → Reads h v d as → Reads h' v d as
  | _, .int i, _, _, r => by cases r; exact .int _ _
  | _, .tuple xs, _, hc, r => by
    rw [pCmp] at hc
    cases r with
    | tuple h1 h2 h3 h4 => exact .tuple (k _ _ h1 h2) h2 h3 (readsAll_keep k hc h4)
  | _, .none, _, h, _ | _, .bool _, _, h, _ | _, .str _, _, h, _ | _, .list _, _, h, _ | _, .dict _, _, h, _ => by simp [pCmp] at h
theorem readsAll_keep {h h' : Heap} (k : ∀ b o, h.get? b = some o → o.cls = .type "tuple" → h'.get? b = some o) : ∀ {vs : List Value} {ds : List PyData} {as : List Addr}, pCmps ds ds = true → ReadsAll h vs ds as → ReadsAll h' vs ds as
  | _, [], _, _, r => by cases r; exact .nil
  | _, d :: ds, _, hc, r => by
    rw [pCmps, Bool.and_eq_true] at hc
    cases r with
    | cons r rs => exact .cons (reads_keep k hc.1 r) (readsAll_keep k hc.2 rs)
end
section
variable {prog : Program} {w : World} {A : Around} {E : Value → Shared → Prop} {s : Shared}
theorem lex_data {b : Bool} : ∀ (xs ys : List PyData) (us vs : List Value) (as bs : List Addr) (i : Nat) (Q : Bool → Shared → Prop), ReadsAll s.heap us xs as → ReadsAll s.heap vs ys bs → pCmps xs ys = true → PyData.canLayAll0 xs = true → PyData.canLayAll0 ys = true →
    A.units + min (PyData.depthAll xs) (PyData.depthAll ys) < cLine → (b = true → i = 0 → ∀ x ∈ xs.head?, ∃ n, x = .int n) → Q (pLts xs ys) s → PySem.W.KatLex prog w A b (decide (us.length < vs.length)) Q (us.zip vs) i s
  | [], ys, _, vs, _, _, i, Q, ra, rb, _, _, _, _, _, q => by
    cases ra
    rw [pLts_nil] at q
    have n2 := readsAll_at rb
    have e : (!ys.isEmpty) = decide (([] : List Value).length < vs.length) := by
      cases ys with
      | nil => simp at n2; simp [n2]
      | cons y ys => simp at n2; simp; omega
    rw [e] at q
    exact PySem.W.kat_nil q
  | x :: xs, [], us, _, _, _, i, Q, ra, rb, _, _, _, _, _, q => by
    cases rb
    rw [pLts_end] at q
    have e : false = decide (us.length < ([] : List Value).length) := by simp
    rw [e] at q
    rw [List.zip_nil_right]
    exact PySem.W.kat_nil q
  | x :: xs, y :: ys, _, _, _, _, i, Q, ra, rb, h, ha, hb, hu, hi, q => by
    rw [pCmps, Bool.and_eq_true] at h
    have ha' : x.canLay0 = true ∧ PyData.canLayAll0 xs = true := by simpa [PyData.canLayAll0] using ha
    have hb' : y.canLay0 = true ∧ PyData.canLayAll0 ys = true := by simpa [PyData.canLayAll0] using hb
    cases ra with
    | @cons u us _ _ _ _ r rs =>
      cases rb with
      | @cons v vs _ _ _ _ r' rs' =>
        rw [List.zip_cons_cons]
        have el : decide ((u :: us).length < (v :: vs).length) = decide (us.length < vs.length) := by simp
        rw [el]
        rw [pLts_rec x y xs ys h.1] at q
        refine PySem.W.kat_cons (eqAt_reads x y A s u v _ _ r r' ha'.1 hb'.1 (room_head hu) prog w _ _ ?_)
        by_cases e : PyData.eqv x y = true
        · rw [e, if_pos rfl] at q
          rw [e]
          exact PySem.W.kat_yes (lex_data xs ys us vs _ _ (i + 1) Q rs rs' h.2 ha'.2 hb'.2 (room_tail hu) (fun _ z => by omega) q)
        · have e' : PyData.eqv x y = false := by simpa using e
          rw [e', if_neg (by decide)] at q
          rw [e']
          refine PySem.W.kat_no ?_
          by_cases hb0 : (b && i == 0) = true
          · rw [Bool.and_eq_true, beq_iff_eq] at hb0
            obtain ⟨n, en⟩ := hi hb0.1 hb0.2 x (by simp)
            subst en
            cases y with
            | int m =>
              cases r
              cases r'
              have e1 : pLt (.int n) (.int m) = decide (n < m) := by simp [pLt, pFlat, llt]
              rw [e1] at q
              exact TS.oneLt_ints _ q
            | _ => simp [pCmp] at h
          · have hb0 : (b && i == 0) = false := by simpa using hb0
            rw [hb0]
            exact PySem.W.kat_one _ _ ((rc_lt x y A s u v _ _ r r' h.1 ha'.1 hb'.1 (room_head hu)).1 prog w _ _ (show PySem.W.BoolBack Q (.bool (pLt x y)) s from q))
theorem data_sortable {a : Addr} {vs : List Value} {ds : List PyData} {as : List Addr} (h2 : 2 ≤ vs.length) (C : SrtC ds) (ra : ReadsAll s.heap vs ds as) (rk : Value → PyData) (hrk : vs.map rk = ds) (hu : A.units + 64 < cLine) (ha : ∀ o, s.heap.get? a = some o → o.cls ≠ .type "tuple") :
    SrtO.SortableO prog w A s a vs fun v u => llt (pFlat (rk v)) (pFlat (rk u)) := by
  intro h' keep
  have kk : ∀ b o, s.heap.get? b = some o → o.cls = .type "tuple" → h'.get? b = some o := fun b o e c => keep b o (fun z => by subst z; exact ha o e c) e
  have each : ∀ v ∈ vs, rk v ∈ ds ∧ ∃ as, Reads h' v (rk v) as := by
    have key : ∀ (vs : List Value) (ds : List PyData) (as : List Addr), (∀ x ∈ ds, pCmp x x = true) → ReadsAll s.heap vs ds as → vs.map rk = ds → ∀ v ∈ vs, rk v ∈ ds ∧ ∃ as, Reads h' v (rk v) as := by
      intro vs
      induction vs with
      | nil => intro ds as _ _ _ v hv; cases hv
      | cons u vs ih =>
        intro ds as hc r e v hv
        cases r with
        | cons r rs =>
          simp only [List.map_cons, List.cons.injEq] at e
          rcases List.mem_cons.mp hv with z | z
          · subst z
            rw [e.1]
            exact ⟨List.mem_cons_self, _, reads_keep kk (hc _ List.mem_cons_self) r⟩
          · obtain ⟨i1, i2⟩ := ih _ _ (fun x hx => hc x (List.mem_cons_of_mem _ hx)) rs e.2 v z
            exact ⟨List.mem_cons_of_mem _ i1, i2⟩
    exact key vs ds as (fun x hx => C.cmp x hx x hx) ra hrk
  match vs, h2, each, hrk with
  | v1 :: v2 :: rest, _, each, hrk =>
    have h0 := each v1 List.mem_cons_self
    cases e0 : rk v1 with
    | int n0 =>
      have hI : ∀ v ∈ v1 :: v2 :: rest, ∃ i t, v = Value.int i t ∧ rk v = .int i := fun v hv => by
        obtain ⟨m, as, r⟩ := each v hv
        have := C.cmp _ h0.1 _ m
        rw [e0] at this
        cases e : rk v with
        | int i =>
          rw [e] at r
          cases r
          exact ⟨_, _, rfl, rfl⟩
        | _ => rw [e] at this; simp [pCmp] at this
      refine ⟨oneType', fun Q E hq => ?_, ?_⟩
      · rw [keyKind_ints (SrtO.ints_iv fun v hv => let ⟨i, t, e, _⟩ := hI v hv; ⟨i, t, e⟩)]
        exact wpAny_pure hq
      · intro p q hp hq
        obtain ⟨i, t, e, e1⟩ := hI _ hp
        obtain ⟨j, t', e', e2⟩ := hI _ hq
        show wpAny (model prog w) A (keyLt' oneType' p.1 q.1) (fun r s' => s' = _ ∧ r = llt (pFlat (rk p.1)) (pFlat (rk q.1))) (fun _ _ => False) _
        rw [e1, e2, e, e', keyLt'_oneType]
        exact oneLt_int ⟨rfl, by simp [pFlat, llt]⟩
    | tuple xs0 =>
      -- what the first one begins with
      obtain ⟨x0, r0, ex0⟩ : ∃ x0 r0, xs0 = x0 :: r0 := by
        cases xs0 with
        | nil => exact absurd e0 (C.ne _ h0.1)
        | cons x r => exact ⟨x, r, rfl⟩
      subst ex0
      have hT : ∀ v ∈ v1 :: v2 :: rest, ∃ (a : Addr) (o : Obj) (us : Array Value) (n : Nat) (u : Value) (y : PyData) (ys : List PyData) (as : List Addr), v = .ref a ∧ h'.get? a = some o ∧ o.cls = .type "tuple" ∧ o.data = .seq us n ∧ us[0]? = some u ∧ rk v = .tuple (y :: ys) ∧ ReadsAll h' us.toList (y :: ys) as ∧
          pCmp x0 y = true ∧ ∃ as, Reads h' u y as := fun v hv => by
        obtain ⟨m, as, r⟩ := each v hv
        have hc := C.cmp _ h0.1 _ m
        rw [e0] at hc
        cases e : rk v with
        | tuple ys =>
          rw [e] at r hc
          cases ys with
          | nil => exact absurd e (C.ne _ m)
          | cons y ys =>
            simp only [pCmp, pCmps, Bool.and_eq_true] at hc
            cases r with
            | @tuple a o us n _ _ h1 h2 h3 h4 =>
              cases hus : us.toList with
              | nil => rw [hus] at h4; cases h4
              | cons u ur =>
                have hu0 : us[0]? = some u := by
                  rw [← Array.getElem?_toList, hus]; rfl
                rw [hus] at h4
                have h4' := h4
                cases h4 with
                | cons ry rys => exact ⟨a, o, us, n, u, y, ys, _, rfl, h1, h2, h3, hu0, rfl, by rw [hus]; exact h4', hc.1, _, ry⟩
        | _ => rw [e] at hc; simp [pCmp] at hc
      -- the first items
      obtain ⟨T, hTT, hT2, hTy⟩ : ∃ T : String, (∀ (u : Value) (y : PyData) (as : List Addr), Reads h' u y as → pCmp x0 y = true → PySem.W.Looks (model prog w) h' (typeOf u) (Value.type T)) ∧ (Value.type T == Value.type T) = true ∧ ((Value.type T != Value.type "tuple") = true → ∃ n, x0 = .int n) := by
        cases x0 with
        | int n =>
          refine ⟨"int", fun u y as r hc => ?_, rfl, fun _ => ⟨n, rfl⟩⟩
          cases y with
          | int m => cases r; exact PySem.W.Looks.now
          | _ => simp [pCmp] at hc
        | tuple zs =>
          refine ⟨"tuple", fun u y as r hc => ?_, rfl, fun h => by
            have e : (Value.type "tuple" != Value.type "tuple") = false := by first | decide +kernel | rfl | decide
            rw [e] at h; cases h⟩
          cases y with
          | tuple ys =>
            cases r with
            | @tuple a o us n _ _ h1 h2 h3 h4 =>
              have z : PySem.W.Looks (model prog w) h' (typeOf (.ref a)) o.cls := (PySem.W.Looks.ld h1).andThen .now
              rw [h2] at z
              exact z
          | _ => simp [pCmp] at hc
        | _ =>
          have := C.cmp _ h0.1 _ h0.1
          rw [e0] at this
          simp [pCmp, pCmps] at this
      refine ⟨tuples' (Value.type T != Value.type "tuple"), fun Q E hq => ?_, ?_⟩
      · have hk : ∀ (l : List Value), (∀ v ∈ l, v ∈ v1 :: v2 :: rest) → ∃ fs : List Value, PySem.W.KatTups h' l fs ∧ fs.length = l.length ∧ ∀ f ∈ fs, PySem.W.Looks (model prog w) h' (typeOf f) (Value.type T) := by
          intro l
          induction l with
          | nil => exact fun _ => ⟨[], PySem.W.KatTups.nil, rfl, fun f hf => by cases hf⟩
          | cons v l ih =>
            intro hl
            obtain ⟨fs, k1, k2, k3⟩ := ih fun u hu => hl u (List.mem_cons_of_mem _ hu)
            obtain ⟨a, o, us, n, u, y, ys, as, e1, e2, e3, e4, e5, e6, e7, e8, as', e9⟩ := hT v (hl v List.mem_cons_self)
            subst e1
            refine ⟨u :: fs, PySem.W.KatTups.cons e2 e3 e4 e5 k1, by simp [k2], fun f hf => ?_⟩
            rcases List.mem_cons.mp hf with z | z
            · rw [z]; exact hTT u y as' e9 e8
            · exact k3 f z
        obtain ⟨fs, k1, k2, k3⟩ := hk _ fun v hv => hv
        exact PySem.W.kat_kind (T := .type T) k1 (by rw [k2]; simp) (fun f hf => k3 f hf) hT2 hq
      · intro p q hp hq
        show wpAny (model prog w) A (keyLt' (tuples' (Value.type T != Value.type "tuple")) p.1 q.1) (fun r s' => s' = _ ∧ r = llt (pFlat (rk p.1)) (pFlat (rk q.1))) (fun _ _ => False) _
        obtain ⟨a, o, us, n, u, y, ys, as, e1, e2, e3, e4, e5, e6, e7, e8, _⟩ := hT p.1 hp
        obtain ⟨a', o', us', n', u', y', ys', as', e1', e2', e3', e4', e5', e6', e7', e8', _⟩ := hT q.1 hq
        have m1 := (each _ hp).1
        have m2 := (each _ hq).1
        have hcm := C.cmp _ m1 _ m2
        have s1 := canLay_of_shaped (C.shp _ m1)
        have s2 := canLay_of_shaped (C.shp _ m2)
        have hroom := room_of_shaped (A := A) (db := rk q.1) (C.shp _ m1) hu
        rw [e6] at hcm s1 hroom ⊢
        rw [e6'] at hcm s2 hroom ⊢
        rw [e1, e1']
        have hroom' : A.units + min (PyData.depthAll (y :: ys) + 1) (PyData.depthAll (y' :: ys') + 1) < cLine := hroom
        refine PySem.W.kat_lt (s := { s with heap := h' }) e2 e4 e2' e4' ?_
        rw [show us.size = us.toList.length from (Array.length_toList).symm, show us'.size = us'.toList.length from (Array.length_toList).symm]
        rw [pCmp] at hcm
        refine lex_data (s := { s with heap := h' }) (y :: ys) (y' :: ys') _ _ _ _ 0 _ e7 e7' hcm s1 s2 (by have := room_in hroom'; omega) (fun hb _ x hx => ?_) ⟨rfl, rfl⟩
        obtain ⟨n, en⟩ := hTy hb
        rw [en] at e8
        simp only [List.head?_cons, Option.mem_def, Option.some.injEq] at hx
        subst hx
        cases y with
        | int m => exact ⟨m, rfl⟩
        | _ => simp [pCmp] at e8
    | _ =>
      have := C.cmp _ h0.1 _ h0.1
      rw [e0] at this
      simp [pCmp] at this
end
/-! ### sorted as a builtin of the layer -/
def bkV : Value → V
  | .int i _ => .int i
  | .ref a => .ref a
  | _ => .non
def rSortD (K : PySem.W.Frag) : List V → Hp → VK → Prop := fun vs H Q => ∃ a xs ds, vs = [V.ref a] ∧ SqL K H a xs ∧ DpAll K H xs ds ∧ SrtC ds ∧
  ∀ (zs : List (PyData × V)) p, zs.Perm (ds.zip xs) → (zs.map (·.1)).Pairwise (fun x y => pLt y x = false) → H p = none → Q (.ref p) (upd H p (.lst (zs.map (·.2))))
theorem bk_of : ∀ {xs : List V} {us : List Value} {K : PySem.W.Frag} {H : Hp} {ds : List PyData}, Vals xs us → DpAll K H xs ds → (∀ x ∈ ds, pCmp x x = true) → xs = us.map bkV ∧ (∀ u ∈ us, RelV (bkV u) u)
  | _, _, _, _, _, .nil, h, _ => ⟨rfl, fun u hu => by cases hu⟩
  | x :: xs, u :: us, K, H, ds, .cons r t, h, hc => by
    cases h with
    | @cons _ _ d ds h hs =>
      obtain ⟨i1, i2⟩ := bk_of t hs fun y hy => hc y (List.mem_cons_of_mem _ hy)
      have hd := hc d List.mem_cons_self
      have key : x = bkV u ∧ RelV (bkV u) u := by
        cases h with
        | int i =>
          obtain ⟨tk, rfl⟩ := r
          exact ⟨rfl, tk, rfl⟩
        | tup h1 h2 =>
          cases r
          exact ⟨rfl, rfl⟩
        | non => simp [pCmp] at hd
        | bl b => simp [pCmp] at hd
        | str b => simp [pCmp] at hd
        | lst h1 h2 => simp [pCmp] at hd
      refine ⟨by rw [List.map_cons, ← i1, ← key.1], fun v hv => ?_⟩
      rcases List.mem_cons.mp hv with z | z
      · rw [z]; exact key.2
      · exact i2 v z
theorem vals_bk : ∀ {us : List Value}, (∀ u ∈ us, RelV (bkV u) u) → Vals (us.map bkV) us
  | [], _ => .nil
  | u :: us, h => .cons (h u List.mem_cons_self) (vals_bk fun y hy => h y (List.mem_cons_of_mem _ hy))
section
variable {X : Cx}
theorem cr_sortD (hu : X.A.units + 66 < cLine) : CallR X (.builtin "sorted") (rSortD X.K) := by
  intro pins s σ H vs us Q I r h
  obtain ⟨a, xs, ds, rfl, hs, hd, C, q⟩ := h
  obtain ⟨its, rv, hl, hz⟩ := I.list hs
  obtain ⟨u, rfl, ru⟩ := vals1 r
  obtain rfl : u = Value.ref a := ru
  obtain ⟨as, ra⟩ := Dp.readsAll I ds xs its hd rv
  obtain ⟨e1, e2⟩ := bk_of rv hd fun x hx => C.cmp x hx x hx
  have hlay : PyData.canLayAll0 ds = true := by
    have : ∀ l : List PyData, (∀ x ∈ l, shaped x = true) → PyData.canLayAll0 l = true := by
      intro l
      induction l with
      | nil => intro _; rfl
      | cons x l ih =>
        intro h
        show (x.canLay0 && PyData.canLayAll0 l) = true
        rw [canLay_of_shaped (h x List.mem_cons_self), ih fun y hy => h y (List.mem_cons_of_mem _ hy)]
        rfl
    exact this ds C.shp
  have hmap : its.map (readOf s.heap) = ds := readsAll_map ds its as hlay ra
  refine SrtO.sorted_ord (llt_swo fun v => pFlat (readOf s.heap v)) hl.isList (by rw [← rv.length]; exact hz) (fun h2 h₁ a' ha' kk => ?_) fun out h1 h2 => ?_
  · have ra1 : ReadsAll h₁ its ds as := by
      have key : ∀ (vs : List Value) (l : List PyData) (as : List Addr), (∀ x ∈ l, pCmp x x = true) → ReadsAll s.heap vs l as → ReadsAll h₁ vs l as := by
        intro vs l
        induction l generalizing vs with
        | nil => intro as _ r; cases r; exact .nil
        | cons x l ih =>
          intro as hc r
          cases r with
          | cons r rs => exact .cons (reads_keep (fun b o e _ => (kk b o e).2) (hc x List.mem_cons_self) r) (ih _ _ (fun y hy => hc y (List.mem_cons_of_mem _ hy)) rs)
      exact key its ds as (fun x hx => C.cmp x hx x hx) ra
    refine data_sortable (s := { s with heap := h₁ }) (ds := ds) (as := as) h2 C ra1 (readOf s.heap) hmap (by show X.A.units + 1 + 1 + 64 < cLine; omega) fun o e => ?_
    have e' : some o = some (seqObj "list" its.toArray 0) := e.symm.trans ha'
    cases e'
    intro c
    exact absurd (Value.type.inj c) (by decide)
  · obtain ⟨ep, he'⟩ := PyProof.Rows.sortedAll_at s.heap its out.toArray
    have hrel : ∀ u ∈ out, RelV (bkV u) u := fun u hu => e2 u (h2.perm.mem_iff.mp hu)
    have hlen : (out.map bkV).length ≤ sizeLine := by
      rw [List.length_map, h2.perm.length_eq, ← List.length_map (f := bkV), ← e1]
      exact hz
    have q' := q (out.map fun u => (readOf s.heap u, bkV u)) (s.heap.objs.size + 1) (by
      have : ds.zip xs = its.map fun u => (readOf s.heap u, bkV u) := by
        rw [← hmap, e1, List.zip_map']
      rw [this]
      exact h2.perm.map _) (by
      rw [List.map_map]
      exact List.pairwise_map.mpr (h1.imp fun {x y} h => h)) (I.hok.fresh (Nat.le_succ _))
    rw [List.map_map] at q'
    exact ⟨.ref _, upd H (s.heap.objs.size + 1) (.lst (out.map bkV)), I.laid (t' := s.toks) (fun _ _ => PyProof.Rows.sortedAll_old) (Nat.le_succ _) ⟨hlen, out, ep, vals_bk hrel, he'⟩, rfl, q'⟩
end
/-! ### sorted of the mirror -/
def D.srtOk (xs : List D) : Bool := xs.all (fun x => xs.all fun y => D.cmp x y) && xs.all fun x => D.shp x && !(match x with | .tup [] => true | _ => false)
def D.sort (xs : List D) : List D := xs.mergeSort fun x y => !D.lt y x
def gSorted (mk : Mk) : List W → Sto → Option (W × Sto) := fun ws S => match ws with
  | [w] => (W.list S w).bind fun xs => if D.srtOk xs = true then some (newL mk (D.sort xs) S) else none
  | _ => none
mutual
def toD : PyData → D
  | .int i => .int i
  | .tuple xs => .tup (toDs xs)
  | _ => .non
def toDs : List PyData → List D
  | [] => []
  | x :: xs => toD x :: toDs xs
end
mutual
theorem toD_py : ∀ x : D, pCmp x.py x.py = true → toD x.py = x
  | .int i, _ => by simp [D.py, toD]
  | .tup xs, h => by
    rw [D.py, pCmp] at h
    rw [D.py, toD, toDs_py xs h]
  | .non, h | .bl _, h | .str _, h | .lst _, h => by simp [D.py, pCmp] at h
theorem toDs_py : ∀ xs : List D, pCmps (D.pys xs) (D.pys xs) = true → toDs (D.pys xs) = xs
  | [], _ => by simp [D.pys, toDs]
  | x :: xs, h => by
    rw [D.pys, pCmps, Bool.and_eq_true] at h
    rw [D.pys, toDs, toD_py x h.1, toDs_py xs h.2]
end
theorem pys_map : ∀ xs : List D, D.pys xs = xs.map D.py
  | [] => rfl
  | x :: xs => by rw [D.pys, pys_map xs]; rfl
theorem D.lt_eq {x y : D} (h : D.cmp x y = true) (h1 : D.lt x y = false) (h2 : D.lt y x = false) (hx : D.cmp x x = true) (hy : D.cmp y y = true) : x = y := by
  have := pLt_eq h h1 h2
  rw [← toD_py x hx, ← toD_py y hy, this]
theorem D.sort_perm (xs : List D) : (D.sort xs).Perm xs := List.mergeSort_perm _ _
theorem D.sort_sorted (xs : List D) : (D.sort xs).Pairwise fun x y => D.lt y x = false := by
  have := List.pairwise_mergeSort (le := fun x y : D => !D.lt y x) (fun a b c h1 h2 => by
    have h1 : D.lt b a = false := by simpa using h1
    have h2 : D.lt c b = false := by simpa using h2
    have : D.lt c a = false := llt_tr _ _ _ h1 h2
    simp [this]) (fun a b => by
    cases h : D.lt b a with
    | false => simp
    | true =>
      have : D.lt a b = false := llt_asym _ _ h
      simp [this]) xs
  exact this.imp fun {x y} h => by simpa using h
theorem D.srtOk_iff {xs : List D} (h : D.srtOk xs = true) : (∀ x ∈ xs, ∀ y ∈ xs, D.cmp x y = true) ∧ (∀ x ∈ xs, D.shp x = true) ∧ ∀ x ∈ xs, x ≠ .tup [] := by
  unfold D.srtOk at h
  rw [Bool.and_eq_true, List.all_eq_true, List.all_eq_true] at h
  refine ⟨fun x hx y hy => List.all_eq_true.mp (h.1 x hx) y hy, fun x hx => ?_, fun x hx e => ?_⟩
  · have := h.2 x hx
    rw [Bool.and_eq_true] at this
    exact this.1
  · have := h.2 x hx
    rw [e] at this
    simp at this
/-- a sorted row of the same items is the sorted row -/
theorem D.sort_uniq {xs ys : List D} (h : D.srtOk xs = true) (hp : ys.Perm xs) (hs : ys.Pairwise fun x y => D.lt y x = false) : ys = D.sort xs := by
  obtain ⟨h1, _, _⟩ := D.srtOk_iff h
  refine List.Perm.eq_of_pairwise (le := fun x y => D.lt y x = false) (fun a b ha hb k1 k2 => ?_) hs (D.sort_sorted xs) (hp.trans (D.sort_perm xs).symm)
  have ha' := hp.mem_iff.mp ha
  have hb' := (D.sort_perm xs).mem_iff.mp hb
  exact D.lt_eq (h1 a ha' b hb') k2 k1 (h1 a ha' a ha') (h1 b hb' b hb')
section
variable {X : Cx}
theorem cm_sorted (mk : Mk) {k : Nat} (hr : Room k X.A) : CallM X (.builtin "sorted") (gSorted mk) := by
  refine ⟨_, cr_sortD (by have := hr.un; omega), fun H S m ws vs w S' Q rl rs e k => ?_⟩
  unfold gSorted at e
  split at e
  · obtain ⟨xs, h1, e⟩ := bind_some e
    split at e
    · rename_i hok
      obtain ⟨v, rfl, r⟩ := WRs.one rs
      obtain ⟨a, us, rfl, h3, h4⟩ := W.list_ok h1 rl r
      obtain ⟨c1, c2, c3⟩ := D.srtOk_iff hok
      refine ⟨a, us, D.pys xs, rfl, h3, DRs.dp h4, ⟨?_, ?_, ?_⟩, fun zs p hp hsrt hn => ?_⟩
      · intro x hx y hy
        rw [pys_map] at hx hy
        obtain ⟨x, hx1, rfl⟩ := List.mem_map.mp hx
        obtain ⟨y, hy1, rfl⟩ := List.mem_map.mp hy
        exact c1 x hx1 y hy1
      · intro x hx
        rw [pys_map] at hx
        obtain ⟨x, hx1, rfl⟩ := List.mem_map.mp hx
        exact c2 x hx1
      · intro x hx e
        rw [pys_map] at hx
        obtain ⟨x, hx1, rfl⟩ := List.mem_map.mp hx
        have hxx := toD_py x (c1 x hx1 x hx1)
        rw [e] at hxx
        exact c3 x hx1 (by rw [← hxx]; rfl)
      · have hlen := DRs.length h4
        -- the items behind
        have each : ∀ z ∈ (D.pys xs).zip us, toD z.1 ∈ xs ∧ (toD z.1).py = z.1 ∧ DR X.K H m (toD z.1) z.2 := by
          have key : ∀ (xs : List D) (us : List V), (∀ x ∈ xs, pCmp x.py x.py = true) → DRs X.K H m xs us → ∀ z ∈ (D.pys xs).zip us, toD z.1 ∈ xs ∧ (toD z.1).py = z.1 ∧ DR X.K H m (toD z.1) z.2 := by
            intro xs
            induction xs with
            | nil => intro us _ _ z hz; simp [D.pys] at hz
            | cons x xs ih =>
              intro us hc hd z hz
              unfold DRs at hd
              obtain ⟨v, vs', rfl, d1, d2⟩ := hd
              rw [D.pys, List.zip_cons_cons] at hz
              rcases List.mem_cons.mp hz with e | e
              · subst e
                have := toD_py x (hc x List.mem_cons_self)
                refine ⟨by rw [this]; exact List.mem_cons_self, by rw [this], by rw [this]; exact d1⟩
              · obtain ⟨i1, i2⟩ := ih vs' (fun y hy => hc y (List.mem_cons_of_mem _ hy)) d2 z e
                exact ⟨List.mem_cons_of_mem _ i1, i2⟩
          exact key xs us (fun x hx => c1 x hx x hx) h4
        have hz : ∀ z ∈ zs, (toD z.1).py = z.1 ∧ DR X.K H m (toD z.1) z.2 := fun z hz => (each z (hp.mem_iff.mp hz)).2
        have hperm : (zs.map fun z => toD z.1).Perm xs := by
          have h := hp.map fun z => toD z.1
          have e2 : ((D.pys xs).zip us).map (fun z => toD z.1) = xs := by
            have : ((D.pys xs).zip us).map (fun z => toD z.1) = (((D.pys xs).zip us).map (·.1)).map toD := by rw [List.map_map]; rfl
            rw [this, List.map_fst_zip (by rw [pys_map]; simp [hlen]), pys_map, List.map_map]
            have : ∀ l : List D, (∀ x ∈ l, pCmp x.py x.py = true) → l.map (toD ∘ D.py) = l := by
              intro l
              induction l with
              | nil => intro _; rfl
              | cons x l ih => intro h; rw [List.map_cons, ih fun y hy => h y (List.mem_cons_of_mem _ hy)]; show toD x.py :: l = _; rw [toD_py x (h x List.mem_cons_self)]
            exact this xs fun x hx => c1 x hx x hx
          rw [e2] at h
          exact h
        have hsorted : (zs.map fun z => toD z.1).Pairwise fun x y => D.lt y x = false := by
          rw [List.pairwise_map] at hsrt ⊢
          refine hsrt.imp_of_mem fun {x y} hx hy h => ?_
          show pLt (toD y.1).py (toD x.1).py = false
          rw [(hz x hx).1, (hz y hy).1]
          exact h
        have hun := D.sort_uniq hok hperm hsorted
        rw [← hun] at e
        have hdr : DRs X.K H m (zs.map fun z => toD z.1) (zs.map (·.2)) := by
          have key : ∀ zs : List (PyData × V), (∀ z ∈ zs, DR X.K H m (toD z.1) z.2) → DRs X.K H m (zs.map fun z => toD z.1) (zs.map (·.2)) := by
            intro zs
            induction zs with
            | nil => intro _; rfl
            | cons z zs ih =>
              intro h
              unfold DRs
              exact ⟨_, _, rfl, h z List.mem_cons_self, ih fun y hy => h y (List.mem_cons_of_mem _ hy)⟩
          exact key zs fun z hz' => (hz z hz').2
        exact newL_ok (Option.some.inj e) rl hdr k p hn
    · cases e
  · cases e
end
end MW
end
section
set_option maxRecDepth 100000
/-! MW, part p: index, starred items, lists of ranges. -/
namespace MW
open PySem PySem.Spec PyProof.Rows L2 PySem.SeqAt
section
variable {X : Cx} {a b e o : Expr} {fa fb f fo fi : ME} {pos : Pos} {es : List Expr} {ga : MA}

/-! ### xs.index(y) -/
def D.at? (xs : List D) (y : D) : Option Nat := xs.findIdx? fun z => D.eqv z y
def gIndexL : W → List W → Sto → Option (W × Sto) := fun x ws S => match ws with
  | [.d y] => (W.list S x).bind fun xs => if D.shp (.lst xs) = true ∧ D.shp y = true then (D.at? xs y).bind fun j => some (.d (.int j), S) else none
  | _ => none
theorem pys_get (xs : List D) (j : Nat) : (D.pys xs)[j]? = xs[j]?.map D.py := by rw [pys_map, List.getElem?_map]
theorem mm_index {k : Nat} (hr : Room k X.A) : MtMM X "list" "list.index" gIndexL := by
  refine ⟨_, mt_indexD (by have := hr.un; omega), fun H S m x v rl r _ e => tyV_list rl r e, fun H S m x v ws vs w S' Q rl r rs e k => ?_⟩
  unfold gIndexL at e
  split at e
  · rename_i y
    obtain ⟨xs, h1, e⟩ := bind_some e
    split at e
    · rename_i hz
      obtain ⟨j, h2, e⟩ := bind_some e
      cases e
      obtain ⟨a, us, rfl, h3, h4⟩ := W.list_ok h1 rl r
      obtain ⟨v, rfl, ry⟩ := WRs.one rs
      unfold D.at? at h2
      obtain ⟨hj, k1, k2⟩ := List.findIdx?_eq_some_iff_getElem.mp h2
      refine ⟨a, v, y.py, D.pys xs, j, (xs[j]).py, rfl, rfl, .lst h3 (DRs.dp h4), DR.dp ry, hz.1, hz.2, ?_, k1, ?_, k H m _ rl .refl rfl⟩
      · rw [pys_get, List.getElem?_eq_getElem hj]; rfl
      · intro i z hi hz'
        rw [pys_get, List.getElem?_eq_getElem (by omega)] at hz'
        cases hz'
        have := k2 i hi
        simpa [D.eqv] using this
    · cases e
  · cases e

/-! ### *e in a display -/
def mStarC (f : ME) (ga : MA) : MA := fun env S => (f env S).bind fun p => (W.seq p.2 p.1).bind fun xs => (ga env p.2).bind fun q => some (xs.map W.d ++ q.1, q.2)
theorem WRs.of_DRs {K : PySem.W.Frag} {H : Hp} {m : Mp} : ∀ {xs : List D} {vs : List V}, DRs K H m xs vs → WRs K H m (xs.map W.d) vs
  | [], _, h => by unfold DRs at h; subst h; rfl
  | x :: xs, _, h => by
    unfold DRs at h
    obtain ⟨v, vs', rfl, h1, h2⟩ := h
    exact ⟨v, vs', rfl, h1, WRs.of_DRs h2⟩
theorem WRs.app {K : PySem.W.Frag} {H : Hp} {m : Mp} : ∀ {xs ys : List W} {vs us : List V}, WRs K H m xs vs → WRs K H m ys us → WRs K H m (xs ++ ys) (vs ++ us)
  | [], _, _, _, h, k => by unfold WRs at h; subst h; exact k
  | x :: xs, _, _, _, h, k => by
    obtain ⟨v, vs', rfl, h1, h2⟩ := h
    exact ⟨v, vs' ++ _, rfl, h1, WRs.app h2 k⟩
theorem ma_star {p : Pos} (he : PE X e (tM X.K f)) (hr : PA X es (tMA X.K ga)) (hs : starEach (.Starred e p :: es) X.env = (true, eval e X.env) :: starEach es X.env := by rfl) : PA X (.Starred e p :: es) (tMA X.K (mStarC f ga)) := by
  refine PA.imp (StX.pa_star he hr hs) fun σ H Q ⟨env, S, m, ws, S', er, rl, h, k⟩ => ?_
  unfold mStarC at h
  obtain ⟨⟨w, S1⟩, h1, h⟩ := bind_some h
  obtain ⟨xs, h2, h⟩ := bind_some h
  obtain ⟨⟨vs, S2⟩, h3, h⟩ := bind_some h
  cases h
  refine ⟨env, S, m, w, S1, er, rl, h1, fun H1 m1 v rl1 g1 r1 => ?_⟩
  obtain ⟨a, us, rfl, h4, h5⟩ := W.seq_ok h2 rl1 r1
  refine ⟨a, us, rfl, h4.symm, env, S1, m1, vs, S2, er.gr g1, rl1, h3, fun H2 m2 zs rl2 g2 r2 => ?_⟩
  exact k H2 m2 _ rl2 (g1.trans g2) (WRs.app (WRs.of_DRs (h5.gr g2)) r2)

/-! ### list(range(..)), tuple(range(..)) -/
def rgOk (a b : Int) : Bool := decide (-(2 ^ 62) ≤ a) && decide (a < 2 ^ 62) && decide (-(2 ^ 62) ≤ b) && decide (b < 2 ^ 62) && decide ((b - a).toNat ≤ 2 ^ 24)
theorem rgOk_iff {a b : Int} (h : rgOk a b = true) : RgOk a b := by
  unfold rgOk at h
  simp only [Bool.and_eq_true, decide_eq_true_eq] at h
  exact ⟨h.1.1.1.1, h.1.1.1.2, h.1.1.2, h.1.2, h.2⟩
theorem drs_rg {K : PySem.W.Frag} {H : Hp} {m : Mp} (a b : Int) : DRs K H m (upFrom a (b - a).toNat) (rgV a b) := by
  unfold upFrom rgV
  generalize (b - a).toNat = n
  have : ∀ l : List Nat, DRs K H m (l.map fun (i : Nat) => D.int (a + (i : Int))) (l.map fun i => V.int (a + (i : Nat))) := by
    intro l
    induction l with
    | nil => rfl
    | cons x l ih => exact ⟨_, _, rfl, rfl, ih⟩
  exact this _
def mLstRg1 (mk : Mk) (f : ME) : ME := fun env S => (f env S).bind fun p => match p.1 with
  | .d (.int n) => if rgOk 0 n = true then some (newL mk (upFrom 0 (n - 0).toNat) p.2) else none
  | _ => none
def mLstRg2 (mk : Mk) (f g : ME) : ME := fun env S => (f env S).bind fun p => (g env p.2).bind fun q => match p.1, q.1 with
  | .d (.int i), .d (.int n) => if rgOk i n = true then some (newL mk (upFrom i (n - i).toNat) q.2) else none
  | _, _ => none
def mTupRg1 (f : ME) : ME := fun env S => (f env S).bind fun p => match p.1 with
  | .d (.int n) => if rgOk 0 n = true then some (.d (.tup (upFrom 0 (n - 0).toNat)), p.2) else none
  | _ => none
def mTupRg2 (f g : ME) : ME := fun env S => (f env S).bind fun p => (g env p.2).bind fun q => match p.1, q.1 with
  | .d (.int i), .d (.int n) => if rgOk i n = true then some (.d (.tup (upFrom i (n - i).toNat)), q.2) else none
  | _, _ => none
theorem me_lstRg1 (mk : Mk) {p p1 q : Pos} (hc : X.calm = true) (hg : Gl X "list") (hm : X.mg "list" = none) (hg1 : Gl X "range") (hm1 : X.mg "range" = none) (ha : PE X a (tM X.K fa)) (na : starEach [a] X.env = (false, eval a X.env) :: starEach [] X.env := by rfl)
    (nb : starEach [Expr.Call (.Name "range" p1) [a] [] q] X.env = (false, eval (.Call (.Name "range" p1) [a] [] q) X.env) :: starEach [] X.env := by rfl) :
    PE X (.Call (.Name "list" p) [.Call (.Name "range" p1) [a] [] q] [] pos) (tM X.K (mLstRg1 mk fa)) := by
  refine PE.imp (pe_listRg hc hg hm (prg_1 hg1 hm1 ha na) nb) fun σ H Q ⟨env, S, m, w, S', er, rl, he, k⟩ => ?_
  unfold mLstRg1 at he
  obtain ⟨⟨w1, S1⟩, h1, he⟩ := bind_some he
  refine ⟨env, S, m, w1, S1, er, rl, h1, fun H1 m1 v rl1 g1 r1 => ?_⟩
  simp only at he
  split at he
  · split at he
    · rename_i n hz
      cases (show v = .int n from r1)
      exact ⟨n, rfl, rgOk_iff hz, newL_ok (Option.some.inj he) rl1 (drs_rg 0 n) fun H' m' z rl' g' => k H' m' z rl' (g1.trans g')⟩
    · cases he
  · cases he
theorem me_tupRg1 {p p1 q : Pos} (hc : X.calm = true) (hg : Gl X "tuple") (hm : X.mg "tuple" = none) (hg1 : Gl X "range") (hm1 : X.mg "range" = none) (ha : PE X a (tM X.K fa)) (na : starEach [a] X.env = (false, eval a X.env) :: starEach [] X.env := by rfl)
    (nb : starEach [Expr.Call (.Name "range" p1) [a] [] q] X.env = (false, eval (.Call (.Name "range" p1) [a] [] q) X.env) :: starEach [] X.env := by rfl) :
    PE X (.Call (.Name "tuple" p) [.Call (.Name "range" p1) [a] [] q] [] pos) (tM X.K (mTupRg1 fa)) := by
  refine PE.imp (pe_tupRg hc hg hm (prg_1 hg1 hm1 ha na) nb) fun σ H Q ⟨env, S, m, w, S', er, rl, he, k⟩ => ?_
  unfold mTupRg1 at he
  obtain ⟨⟨w1, S1⟩, h1, he⟩ := bind_some he
  refine ⟨env, S, m, w1, S1, er, rl, h1, fun H1 m1 v rl1 g1 r1 => ?_⟩
  simp only at he
  split at he
  · split at he
    · rename_i n hz
      cases (show v = .int n from r1)
      cases he
      refine ⟨n, rfl, rgOk_iff hz, fun q hq => ?_⟩
      have g : Gr X.K H1 m1 (upd H1 q (.tup (rgV 0 n))) m1 := .fresh hq
      exact k _ m1 _ (rl1.fresh hq) (g1.trans g) ⟨q, _, rfl, .inl (.inl upd_same), drs_rg 0 n⟩
    · cases he
  · cases he
theorem me_lstRg2 (mk : Mk) {p p1 q : Pos} (hc : X.calm = true) (hg : Gl X "list") (hm : X.mg "list" = none) (hg1 : Gl X "range") (hm1 : X.mg "range" = none) (ha : PE X a (tM X.K fa)) (hb : PE X b (tM X.K fb))
    (na : starEach [a, b] X.env = (false, eval a X.env) :: starEach [b] X.env := by rfl) (na2 : starEach [b] X.env = (false, eval b X.env) :: starEach [] X.env := by rfl) (hp : (backTo q (starEach [b] X.env)).any (·.1) = false := by rfl)
    (nb : starEach [Expr.Call (.Name "range" p1) [a, b] [] q] X.env = (false, eval (.Call (.Name "range" p1) [a, b] [] q) X.env) :: starEach [] X.env := by rfl) :
    PE X (.Call (.Name "list" p) [.Call (.Name "range" p1) [a, b] [] q] [] pos) (tM X.K (mLstRg2 mk fa fb)) := by
  refine PE.imp (pe_listRg hc hg hm (prg_2 hg1 hm1 ha hb na na2 hp) nb) fun σ H Q ⟨env, S, m, w, S', er, rl, he, k⟩ => ?_
  unfold mLstRg2 at he
  obtain ⟨⟨w1, S1⟩, h1, he⟩ := bind_some he
  obtain ⟨⟨w2, S2⟩, h2, he⟩ := bind_some he
  refine ⟨env, S, m, w1, S1, er, rl, h1, fun H1 m1 v rl1 g1 r1 => ⟨env, S1, m1, w2, S2, er.gr g1, rl1, h2, fun H2 m2 u rl2 g2 r2 => ?_⟩⟩
  simp only at he
  split at he
  · split at he
    · rename_i _ _ _ i n _ hz
      cases (show v = .int i from r1)
      cases (show u = .int n from r2)
      exact ⟨i, n, rfl, rfl, rgOk_iff hz, newL_ok (Option.some.inj he) rl2 (drs_rg i n) fun H' m' z rl' g' => k H' m' z rl' ((g1.trans g2).trans g')⟩
    · cases he
  · cases he
theorem me_tupRg2 {p p1 q : Pos} (hc : X.calm = true) (hg : Gl X "tuple") (hm : X.mg "tuple" = none) (hg1 : Gl X "range") (hm1 : X.mg "range" = none) (ha : PE X a (tM X.K fa)) (hb : PE X b (tM X.K fb))
    (na : starEach [a, b] X.env = (false, eval a X.env) :: starEach [b] X.env := by rfl) (na2 : starEach [b] X.env = (false, eval b X.env) :: starEach [] X.env := by rfl) (hp : (backTo q (starEach [b] X.env)).any (·.1) = false := by rfl)
    (nb : starEach [Expr.Call (.Name "range" p1) [a, b] [] q] X.env = (false, eval (.Call (.Name "range" p1) [a, b] [] q) X.env) :: starEach [] X.env := by rfl) :
    PE X (.Call (.Name "tuple" p) [.Call (.Name "range" p1) [a, b] [] q] [] pos) (tM X.K (mTupRg2 fa fb)) := by
  refine PE.imp (pe_tupRg hc hg hm (prg_2 hg1 hm1 ha hb na na2 hp) nb) fun σ H Q ⟨env, S, m, w, S', er, rl, he, k⟩ => ?_
  unfold mTupRg2 at he
  obtain ⟨⟨w1, S1⟩, h1, he⟩ := bind_some he
  obtain ⟨⟨w2, S2⟩, h2, he⟩ := bind_some he
  refine ⟨env, S, m, w1, S1, er, rl, h1, fun H1 m1 v rl1 g1 r1 => ⟨env, S1, m1, w2, S2, er.gr g1, rl1, h2, fun H2 m2 u rl2 g2 r2 => ?_⟩⟩
  simp only at he
  split at he
  · split at he
    · rename_i _ _ _ i n _ hz
      cases (show v = .int i from r1)
      cases (show u = .int n from r2)
      cases he
      refine ⟨i, n, rfl, rfl, rgOk_iff hz, fun q hq => ?_⟩
      have g : Gr X.K H2 m2 (upd H2 q (.tup (rgV i n))) m2 := .fresh hq
      exact k _ m2 _ (rl2.fresh hq) ((g1.trans g2).trans g) ⟨q, _, rfl, .inl (.inl upd_same), drs_rg i n⟩
    · cases he
  · cases he
end
end MW
end
section
set_option maxRecDepth 100000
/-! MW, part q: the module's constants; names of builtins. -/
namespace MW
open PySem PySem.Spec PyProof.Rows L2
section
variable {K : PySem.W.Frag} {h : Heap} {mg : Str → Option Value} {x : Str}
theorem gc_int {i : Int} {t : Tok} (X : K.In h) (G : h.Ns mainGlobals mg) (a : PySem.W.nsIn K mainGlobals x = some (some (.int i t))) : Gc K mg x (.int i) :=
  ⟨_, .int i, PySem.W.mg_of X G a, ⟨t, rfl⟩, fun _ _ => rfl⟩
theorem gc_str {z : Str} {t : Tok} (X : K.In h) (G : h.Ns mainGlobals mg) (a : PySem.W.nsIn K mainGlobals x = some (some (.str z t))) : Gc K mg x (.str z) :=
  ⟨_, .str z, PySem.W.mg_of X G a, ⟨t, rfl⟩, fun _ _ => rfl⟩
/-- values and data, number by number -/
def valD : List Value → List D → Bool
  | [], [] => true
  | .int i _ :: vs, .int j :: ds => decide (i = j) && valD vs ds
  | .str x _ :: vs, .str y :: ds => decide (x = y) && valD vs ds
  | _, _ => false
theorem valD_ok {H : Hp} {m : Mp} : ∀ {vs : List Value} {ds : List D}, valD vs ds = true → ∃ us, Vals us vs ∧ DRs K H m ds us
  | [], [], _ => ⟨[], .nil, rfl⟩
  | .int i t :: vs, .int j :: ds, e => by
    unfold valD at e
    rw [Bool.and_eq_true, decide_eq_true_eq] at e
    obtain ⟨us, h1, h2⟩ := valD_ok e.2
    exact ⟨.int i :: us, .cons ⟨t, rfl⟩ h1, _, _, rfl, by rw [e.1]; rfl, h2⟩
  | .str i t :: vs, .str j :: ds, e => by
    unfold valD at e
    rw [Bool.and_eq_true, decide_eq_true_eq] at e
    obtain ⟨us, h1, h2⟩ := valD_ok e.2
    exact ⟨.str i :: us, .cons ⟨t, rfl⟩ h1, _, _, rfl, by rw [e.1]; rfl, h2⟩
theorem valD_same {vs : List Value} {ds : List D} (e : valD vs ds = true) : ∃ us, Vals us vs ∧ ∀ H m, DRs K H m ds us := by
  induction vs generalizing ds with
  | nil =>
    cases ds with
    | nil => exact ⟨[], .nil, fun _ _ => rfl⟩
    | cons d ds => simp [valD] at e
  | cons v vs ih =>
    cases ds with
    | nil => cases v <;> simp [valD] at e
    | cons d ds =>
      cases v <;> cases d <;> simp [valD] at e
      · obtain ⟨us, h1, h2⟩ := ih e.2
        exact ⟨.int _ :: us, .cons ⟨_, rfl⟩ h1, fun H m => ⟨_, _, rfl, by rw [e.1]; rfl, h2 H m⟩⟩
      · obtain ⟨us, h1, h2⟩ := ih e.2
        exact ⟨.str _ :: us, .cons ⟨_, rfl⟩ h1, fun H m => ⟨_, _, rfl, by rw [e.1]; rfl, h2 H m⟩⟩
theorem gc_tup {ds : List D} {p : Addr} {od : Option Addr} {its : Array Value} {n : Nat} {sl : Array (Option Value)} (X : K.In h) (G : h.Ns mainGlobals mg) (a : PySem.W.nsIn K mainGlobals x = some (some (.ref p)))
    (l : K.lookup p = some ⟨.type "tuple", od, .seq its n, sl⟩) (c : (decide (its.size ≤ sizeLine) && valD its.toList ds) = true) : Gc K mg x (.tup ds) := by
  rw [Bool.and_eq_true, decide_eq_true_eq] at c
  obtain ⟨us, h1, h2⟩ := valD_same (K := K) c.2
  exact ⟨_, .ref p, PySem.W.mg_of X G a, rfl, fun H m => ⟨p, us, rfl, .inr ⟨_, its, n, l, rfl, rfl, c.1, h1⟩, h2 H m⟩⟩
end
def fuelN (n : Nat) : Env → Sto → Nat := fun _ _ => n
end MW
end
section
set_option maxRecDepth 100000
/-! MW, part r: more run lemmas: shapes, emptiness, slices, pop, while. -/
namespace MW
open PySem PySem.Spec L2
/-! ### shapes -/
theorem okD_lay : ∀ (n : Nat) (x : D), okD n x → PyData.canLay0 x.py = true ∧ PyData.depth x.py ≤ n := by
  intro n
  induction n with
  | zero => intro x h; exact h.elim
  | succ n ih =>
    have lst : ∀ xs : List D, (∀ x ∈ xs, okD n x) → PyData.canLayAll0 (D.pys xs) = true ∧ PyData.depthAll (D.pys xs) ≤ n := by
      intro xs
      induction xs with
      | nil => intro _; exact ⟨by rfl, Nat.zero_le _⟩
      | cons x xs ih2 =>
        intro h
        obtain ⟨a, b⟩ := ih x (h x List.mem_cons_self)
        obtain ⟨c, d⟩ := ih2 fun y hy => h y (List.mem_cons_of_mem _ hy)
        refine ⟨?_, ?_⟩
        · show (PyData.canLay0 x.py && PyData.canLayAll0 (D.pys xs)) = true
          rw [a, c]; rfl
        · show max (PyData.depth x.py) (PyData.depthAll (D.pys xs)) ≤ n
          omega
    intro x h
    cases x with
    | non => exact ⟨by rfl, Nat.zero_le _⟩
    | bl b => exact ⟨by rfl, Nat.zero_le _⟩
    | int i => exact ⟨by rfl, Nat.zero_le _⟩
    | str s => exact h.elim
    | tup xs =>
      obtain ⟨c, d⟩ := lst xs h.2
      refine ⟨c, ?_⟩
      show PyData.depthAll (D.pys xs) + 1 ≤ n + 1
      omega
    | lst xs =>
      obtain ⟨c, d⟩ := lst xs h.2
      refine ⟨c, ?_⟩
      show PyData.depthAll (D.pys xs) + 1 ≤ n + 1
      omega
theorem okD_shp {n : Nat} {x : D} (h : okD n x) (hn : n ≤ 64 := by decide) : D.shp x = true := by
  obtain ⟨a, b⟩ := okD_lay n x h
  show (PyData.canLay0 x.py && decide (PyData.depth x.py ≤ 64)) = true
  rw [a, Bool.true_and, decide_eq_true_eq]
  omega
theorem okD_up : ∀ {n m : Nat} {x : D}, n ≤ m → okD n x → okD m x
  | 0, _, _, _, h => h.elim
  | n + 1, 0, _, hm, _ => absurd hm (by omega)
  | n + 1, m + 1, .tup xs, hm, h => ⟨h.1, fun x hx => okD_up (by omega) (h.2 x hx)⟩
  | n + 1, m + 1, .lst xs, hm, h => ⟨h.1, fun x hx => okD_up (by omega) (h.2 x hx)⟩
  | n + 1, m + 1, .non, _, _ => trivial
  | n + 1, m + 1, .bl _, _, _ => trivial
  | n + 1, m + 1, .int _, _, _ => trivial
  | n + 1, m + 1, .str _, _, h => h.elim
theorem okD_fr' (r : Rat) (n : Nat) : okD (n + 2) (fr r) := ⟨by simp, fun x hx => by
  rcases List.mem_cons.mp hx with rfl | hx
  · trivial
  · rcases List.mem_cons.mp hx with rfl | hx
    · trivial
    · cases hx⟩
theorem okD_l {n : Nat} {xs : List D} (h : xs.length ≤ 100000) (k : ∀ x ∈ xs, okD n x) : okD (n + 1) (.lst xs) := ⟨h, k⟩
theorem okD_t {n : Nat} {xs : List D} (h : xs.length ≤ 100000) (k : ∀ x ∈ xs, okD n x) : okD (n + 1) (.tup xs) := ⟨h, k⟩
theorem okD_i (i : Int) (n : Nat) : okD (n + 1) (.int i) := trivial
theorem okD_b (b : Bool) (n : Nat) : okD (n + 1) (.bl b) := trivial
/-! ### empty or not -/
theorem eqv_emp (xs : List D) : D.eqv (.lst xs) (.lst []) = xs.isEmpty := by
  cases xs with
  | nil => rfl
  | cons x xs => rfl
section
variable {S : Sto}
theorem gEq_emp {xs : List D} (h : D.shp (.lst xs) = true) : gEq (.d (.lst xs)) (.d (.lst [])) S = some (.d (.bl xs.isEmpty), S) := by rw [gEq_d h rfl, eqv_emp]
theorem gNe_emp {xs : List D} (h : D.shp (.lst xs) = true) : gNe (.d (.lst xs)) (.d (.lst [])) S = some (.d (.bl (!xs.isEmpty)), S) := by rw [gNe_d h rfl, eqv_emp]
theorem py_ref {n : Nat} {xs : List D} (h : S[n]? = some (.lst xs)) : W.py S (.ref n) = some (.lst xs) := by
  unfold W.py
  simp [list_ref h]
theorem gEq_empR {n : Nat} {xs : List D} (h : S[n]? = some (.lst xs)) (hs : D.shp (.lst xs) = true) : gEq (.ref n) (.d (.lst [])) S = some (.d (.bl xs.isEmpty), S) := by
  unfold gEq
  rw [py_ref h]
  simp only [Option.bind_some, W.py_d]
  rw [if_pos ⟨hs, rfl⟩, eqv_emp]
theorem gNe_empR {n : Nat} {xs : List D} (h : S[n]? = some (.lst xs)) (hs : D.shp (.lst xs) = true) : gNe (.ref n) (.d (.lst [])) S = some (.d (.bl (!xs.isEmpty)), S) := by
  unfold gNe
  rw [py_ref h]
  simp only [Option.bind_some, W.py_d]
  rw [if_pos ⟨hs, rfl⟩, eqv_emp]
/-! ### truths of a list -/
theorem gBs_lst (g : List Bool → Bool) (bs : List Bool) (S : Sto) : gBs g [.d (.lst (bs.map D.bl))] S = some (.d (.bl (g bs)), S) := by
  unfold gBs
  simp [W.list, bools_map]
/-! ### slices -/
theorem cut_to (xs : List D) (k : Nat) : cutD xs none (some (k : Int)) = xs.take k := by
  unfold cutD
  rw [HT.sIx_none, HT.sIx_nat, List.drop_zero, Nat.sub_zero]
  by_cases h : k ≤ xs.length
  · rw [Nat.min_eq_left h]
  · rw [Nat.min_eq_right (by omega), List.take_length, List.take_of_length_le (by omega)]
theorem cut_from (xs : List D) (k : Nat) : cutD xs (some (k : Int)) none = xs.drop k := by
  unfold cutD
  rw [HT.sIx_none, HT.sIx_nat]
  by_cases h : k ≤ xs.length
  · rw [Nat.min_eq_left h]
    exact List.take_of_length_le (by simp)
  · rw [Nat.min_eq_right (by omega), List.drop_length, List.drop_of_length_le (by omega)]
    simp
theorem cut_mid (xs : List D) (j k : Nat) : cutD xs (some (j : Int)) (some (k : Int)) = (xs.take k).drop j := by
  unfold cutD
  rw [HT.sIx_nat, HT.sIx_nat, List.drop_take]
  by_cases h : j ≤ xs.length
  · rw [Nat.min_eq_left h]
    by_cases h2 : k ≤ xs.length
    · rw [Nat.min_eq_left h2]
    · rw [Nat.min_eq_right (by omega), List.take_of_length_le (by simp), List.take_of_length_le (by simp; omega)]
  · have e : min j xs.length = xs.length := by omega
    rw [e, List.drop_length, List.drop_of_length_le (by omega)]
    simp
theorem gSl_tup (mk : Mk) (xs : List D) (lo hi : Option Int) (S : Sto) : gSl mk (.d (.tup xs)) lo hi S = some (.d (.tup (cutD xs lo hi)), S) := (rfl : _ = _).trans rfl
theorem gSl_lst (mk : Mk) (xs : List D) (lo hi : Option Int) (S : Sto) : gSl mk (.d (.lst xs)) lo hi S = some (newL mk (cutD xs lo hi) S) := (rfl : _ = _).trans rfl
theorem gSl_ref {n : Nat} {xs : List D} (h : S[n]? = some (.lst xs)) (mk : Mk) (lo hi : Option Int) : gSl mk (.ref n) lo hi S = some (newL mk (cutD xs lo hi) S) := by
  unfold gSl
  rw [list_ref h]
  rfl
/-! ### pop -/
theorem pop_ref {n : Nat} {xs : List D} {x : D} (h : S[n]? = some (.lst (xs ++ [x]))) : gPop (.ref n) [] S = some (.d x, S.set n (.lst xs)) := by
  unfold gPop
  simp [h]
/-! ### in -/
theorem inD_int (i : Int) (is : List Int) : inD (.int i) (is.map D.int) = decide (i ∈ is) := by
  unfold inD
  rw [List.any_map, Bool.eq_iff_iff, decide_eq_true_eq, List.any_eq_true]
  constructor
  · rintro ⟨j, hj, e⟩
    have : j = i := by simpa using e
    rw [← this]; exact hj
  · intro h
    exact ⟨i, h, by simp⟩
theorem flat_ints (is : List Int) : (is.map D.int).all D.flat = true := by simp [D.flat]
theorem gIn_lst (neg : Bool) (i : Int) (is : List Int) (S : Sto) : gIn neg (.d (.int i)) (.d (.lst (is.map D.int))) S = some (.d (.bl (if neg then !decide (i ∈ is) else decide (i ∈ is))), S) := by
  unfold gIn
  have h1 : W.dat (.d (.int i)) = some (.int i) := rfl
  have h2 : W.seq S (.d (.lst (is.map D.int))) = some (is.map D.int) := rfl
  rw [h1, h2]
  simp only [Option.bind_some]
  rw [if_pos ⟨rfl, flat_ints is⟩, inD_int]
theorem gIn_tup (neg : Bool) (i : Int) (is : List Int) (S : Sto) : gIn neg (.d (.int i)) (.d (.tup (is.map D.int))) S = some (.d (.bl (if neg then !decide (i ∈ is) else decide (i ∈ is))), S) := by
  unfold gIn
  have h1 : W.dat (.d (.int i)) = some (.int i) := rfl
  have h2 : W.seq S (.d (.tup (is.map D.int))) = some (is.map D.int) := rfl
  rw [h1, h2]
  simp only [Option.bind_some]
  rw [if_pos ⟨rfl, flat_ints is⟩, inD_int]
/-! ### while -/
theorem whileM_ok {t : MB} {b : MS} (I : Nat → Env → Sto → Prop) (step : ∀ k env S, I k env S → (t env S = some (false, S)) ∨ (t env S = some (true, S) ∧ ∃ e2 S2 j, b env S = some (.nx e2 S2) ∧ j < k ∧ I j e2 S2)) :
    ∀ (n k : Nat) (env : Env) (S : Sto), k < n → I k env S → ∃ e' S' j, whileM t b n env S = some (.nx e' S') ∧ I j e' S' ∧ t e' S' = some (false, S') := by
  intro n
  induction n with
  | zero => intro k env S h; omega
  | succ n ih =>
    intro k env S hk hI
    rcases step k env S hI with h | ⟨h, e2, S2, j, h1, h2, h3⟩
    · exact ⟨env, S, k, by simp [whileM, h], hI, h⟩
    · obtain ⟨e', S', i, q1, q2, q3⟩ := ih j e2 S2 (by omega) h3
      refine ⟨e', S', i, ?_, q2, q3⟩
      unfold whileM
      rw [h]
      simp only [Option.bind_some, if_true, h1]
      exact q1
/-- a comprehension whose turns change nothing, of data -/
theorem mLc_d {fi : MI} {t : CT} {c : MB} {e : ME} {vs : List Nat} {env : Env} {S S1 : Sto} {xs : List D} (hin : t.in vs = true) (hi : fi env S = some (⟨xs, none⟩, S1)) (p : D → Bool) (f : D → D) (h : ∀ x ∈ xs, ∃ env1, t.set x (wipeE env vs) = some env1 ∧ c env1 S1 = some (p x, S1) ∧ (p x = true → e env1 S1 = some (.d (f x), S1)))
    (hz : xs.length ≤ 100000) : mLc .pure fi t c e vs env S = some (.d (.lst ((xs.filter p).map f)), S1) := by
  have := mLc_pure (mk := .pure) (k := ⟨xs, none⟩) hin hi rfl p f h (by rw [sizeLine_eq]; show xs.length ≤ _; omega)
  exact this
end
theorem dl1' (xs : List D) : W.tup (.d (.lst xs)) = none := (rfl : _ = _).trans rfl
theorem dl2' (S : Sto) (xs : List D) : W.list S (.d (.lst xs)) = some xs := (rfl : _ = _).trans rfl
theorem dl3' (xs : List D) : W.lock (.d (.lst xs)) xs = none := (rfl : _ = _).trans rfl
/-- items of data -/
theorem miSeq_lst {f : ME} {env : Env} {S S1 : Sto} {xs : List D} (h : f env S = some (.d (.lst xs), S1)) : miSeq f env S = some (⟨xs, none⟩, S1) := by
  unfold miSeq wkL
  simp [h, dl1', dl2', dl3']
theorem miSeq_tup {f : ME} {env : Env} {S S1 : Sto} {xs : List D} (h : f env S = some (.d (.tup xs), S1)) : miSeq f env S = some (⟨xs, none⟩, S1) := by
  unfold miSeq
  rw [h]
  rfl
end MW
end
section
set_option maxRecDepth 100000
/-! MW, part s: targets that take a tuple or a list apart. -/
namespace MW
open PySem PySem.Spec L2
def mgTL (n : Nat) (g : MGs) : MG := fun w env S => match W.tup w with
  | some xs => if xs.length = n then g (xs.map W.d) env S else none
  | none => (W.list S w).bind fun xs => if xs.length = n then g (xs.map W.d) env S else none
section
variable {X : Cx} {es : List Expr} {pos : Pos}
theorem PG.or {e : Expr} {t u : TG} (h1 : PG X e t) (h2 : PG X e u) : PG X e (fun v σ H Q => t v σ H Q ∨ u v σ H Q) := ⟨fun pins s σ H v w Q I r h => by
  rcases h with h | h
  · exact h1.run pins s σ H v w Q I r h
  · exact h2.run pins s σ H v w Q I r h⟩
theorem mg_tl {k n : Nat} {g : MGs} (hc : X.calm = true) (h : PGs X es (tMGs X.K g)) (hn : (assignEach es X.env).length = n := by rfl) (hst : (assignEach es X.env).findIdx? (·.1) = none := by rfl) : PG X (.Tuple es k pos) (tMG X.K (mgTL n g)) :=
  PG.imp (PG.or (pg_tup hc h hn hst) (pg_unl hc h hn hst)) fun v σ H Q ⟨env, S, m, w, env', S', er, rl, r, he, k⟩ => by
    unfold mgTL at he
    split at he
    · rename_i xs h1
      split at he
      · rename_i hl
        obtain ⟨a, vs, rfl, h2, h3⟩ := W.tup_ok h1 r
        exact .inl ⟨a, vs, rfl, h2, by rw [DRs.length h3]; exact hl, env, S, m, _, env', S', er, rl, DRs.ws h3, he, k⟩
      · cases he
    · obtain ⟨xs, h1, he⟩ := bind_some he
      split at he
      · rename_i hl
        obtain ⟨a, vs, rfl, h2, h3⟩ := W.list_ok h1 rl r
        exact .inr ⟨a, vs, rfl, h2, by rw [DRs.length h3]; exact hl, env, S, m, _, env', S', er, rl, DRs.ws h3, he, k⟩
      · cases he
theorem mgTL_lst (n : Nat) (g : MGs) (xs : List D) (env : Env) (S : Sto) : mgTL n g (.d (.lst xs)) env S = if xs.length = n then g (xs.map W.d) env S else none := (rfl : _ = _).trans rfl
theorem mgTL_tup (n : Nat) (g : MGs) (xs : List D) (env : Env) (S : Sto) : mgTL n g (.d (.tup xs)) env S = if xs.length = n then g (xs.map W.d) env S else none := (rfl : _ = _).trans rfl
end
end MW
end
section
set_option maxRecDepth 100000
/-! MW, part t: comprehensions whose items change the store. -/
namespace MW
open PySem
theorem lcM_st {k : Wk} {t : CT} {e : ME} {env : Env} (I : List D → List D → Sto → Prop) (hk : ∀ acc r S, I acc r S → k.ok S = true)
    (step : ∀ x r acc S, I acc (x :: r) S → acc.length < sizeLine ∧ ∃ env1 y S2, t.set x env = some env1 ∧ e env1 S = some (.d y, S2) ∧ I (acc ++ [y]) r S2) :
    ∀ (r acc : List D) (S : Sto), I acc r S → ∃ acc' S', lcM k t tYesM e env r acc S = some (acc', S') ∧ I acc' [] S'
  | [], acc, S, h => ⟨acc, S, by simp [lcM, hk _ _ _ h], h⟩
  | x :: r, acc, S, h => by
    obtain ⟨hl, env1, y, S2, h1, h2, h3⟩ := step x r acc S h
    obtain ⟨acc', S', q1, q2⟩ := lcM_st I hk step r (acc ++ [y]) S2 h3
    refine ⟨acc', S', ?_, q2⟩
    unfold lcM
    rw [if_pos (hk _ _ _ h), h1]
    have ty : tYesM env1 S = some (true, S) := rfl
    simp only [Option.bind_some, ty, if_true, h2, give_d, give_nil]
    rw [if_pos hl]
    exact q1
theorem mLc_st {mk : Mk} {fi : MI} {t : CT} {e : ME} {vs : List Nat} {env : Env} {S S1 : Sto} {k : Wk} (hin : t.in vs = true) (hi : fi env S = some (k, S1)) (I : List D → List D → Sto → Prop) (hk : ∀ acc r S, I acc r S → k.ok S = true)
    (step : ∀ x r acc S, I acc (x :: r) S → acc.length < sizeLine ∧ ∃ env1 y S2, t.set x (wipeE env vs) = some env1 ∧ e env1 S = some (.d y, S2) ∧ I (acc ++ [y]) r S2) (h0 : I [] k.its S1) :
    ∃ ys S', mLc mk fi t tYesM e vs env S = some (newL mk ys S') ∧ I ys [] S' := by
  obtain ⟨ys, S', q1, q2⟩ := lcM_st I hk step k.its [] S1 h0
  refine ⟨ys, S', ?_, q2⟩
  unfold mLc
  rw [if_pos hin, hi]
  simp only [Option.bind_some]
  rw [q1]
  rfl
end MW
end
section
set_option maxRecDepth 100000
/-! MW, part u: loops over ranges, comprehensions over rows of anything. -/
namespace MW
open PySem L2
theorem upFrom_eq (n : Nat) : upFrom 0 n = (List.range n).map fun i : Nat => D.int (i : Int) := by
  unfold upFrom
  refine List.map_congr_left fun i _ => ?_
  rw [Int.zero_add]
/-- a loop over a row of anything -/
theorem forL_ok {α : Type} {k : Wk} {g : MG} {b : MS} {xs : List D} (L : List α) (h : α → D) (ex : xs = L.map h) (I : Nat → Env → Sto → Prop) (hk : ∀ i env S, I i env S → k.ok S = true)
    (step : ∀ i (hi : i < L.length) env S, I i env S → ∃ env1 S1 e2 S2, g (.d (h L[i])) env S = some (env1, S1) ∧ b env1 S1 = some (.nx e2 S2) ∧ I (i + 1) e2 S2) {env : Env} {S : Sto} (h0 : I 0 env S) : ∃ e' S', forM k g b xs env S = some (.nx e' S') ∧ I L.length e' S' := by
  have key := forM_ok (k := k) (g := g) (b := b) (fun r env S => ∃ i, i ≤ L.length ∧ r = (L.drop i).map h ∧ I i env S) (fun r env S ⟨i, _, _, q⟩ => hk i env S q) (fun x r env S ⟨i, i1, i2, i3⟩ => by
    have hi : i < L.length := by
      rcases Nat.lt_or_ge i L.length with q | q
      · exact q
      · rw [List.drop_eq_nil_of_le q] at i2
        cases i2
    rw [List.drop_eq_getElem_cons hi, List.map_cons] at i2
    obtain ⟨rfl, rfl⟩ := List.cons.inj i2
    obtain ⟨env1, S1, e2, S2, q1, q2, q3⟩ := step i hi env S i3
    exact ⟨env1, S1, e2, S2, q1, q2, i + 1, hi, rfl, q3⟩) xs env S ⟨0, Nat.zero_le _, by simpa using ex, h0⟩
  obtain ⟨e', S', q1, i, i1, i2, i3⟩ := key
  refine ⟨e', S', q1, ?_⟩
  have hl := congrArg List.length i2
  simp at hl
  have : i = L.length := by omega
  rw [← this]; exact i3
/-- a loop over the numbers below one -/
theorem forR_ok {k : Wk} {g : MG} {b : MS} {N : Nat} (I : Nat → Env → Sto → Prop) (hk : ∀ i env S, I i env S → k.ok S = true)
    (step : ∀ i, i < N → ∀ env S, I i env S → ∃ env1 S1 e2 S2, g (.d (.int i)) env S = some (env1, S1) ∧ b env1 S1 = some (.nx e2 S2) ∧ I (i + 1) e2 S2) {env : Env} {S : Sto} (h0 : I 0 env S) : ∃ e' S', forM k g b (upFrom 0 N) env S = some (.nx e' S') ∧ I N e' S' := by
  have := forL_ok (k := k) (g := g) (b := b) (List.range N) (fun i : Nat => D.int (i : Int)) (upFrom_eq N) I hk (fun i hi env S q => by
    simp only [List.length_range] at hi
    simp only [List.getElem_range]
    exact step i hi env S q) h0
  simpa using this
theorem lcM_L {α : Type} {k : Wk} {t : CT} {c : MB} {e : ME} {env : Env} {S : Sto} (hk : k.ok S = true) (p : α → Bool) (g f : α → D) : ∀ {L : List α} {acc : List D}, (∀ a ∈ L, ∃ env1, t.set (g a) env = some env1 ∧ c env1 S = some (p a, S) ∧ (p a = true → e env1 S = some (.d (f a), S))) → acc.length + L.length ≤ sizeLine →
    lcM k t c e env (L.map g) acc S = some (acc ++ (L.filter p).map f, S)
  | [], acc, _, _ => by simp [lcM, hk]
  | x :: xs, acc, h, hz => by
    obtain ⟨env1, h1, h2, h3⟩ := h x List.mem_cons_self
    have hl : acc.length < sizeLine := by simp at hz; omega
    have ih := fun (acc : List D) (hz : acc.length + xs.length ≤ sizeLine) => lcM_L hk p g f (L := xs) (acc := acc) (fun y hy => h y (List.mem_cons_of_mem _ hy)) hz
    rw [List.map_cons]
    unfold lcM
    rw [if_pos hk, h1]
    simp only [Option.bind_some, h2]
    by_cases hp : p x = true
    · rw [if_pos hp, h3 hp]
      simp only [Option.bind_some, give_d, give_nil]
      rw [if_pos hl, ih _ (by simp at hz ⊢; omega)]
      simp [hp]
    · rw [if_neg hp, ih _ (by simp at hz ⊢; omega)]
      simp [hp]
/-- a comprehension over a row of anything, with a condition -/
theorem mLc_Lp {α : Type} {mk : Mk} {fi : MI} {t : CT} {c : MB} {e : ME} {vs : List Nat} {env : Env} {S S1 : Sto} {lk : Option (Nat × List D)} {xs : List D} (L : List α) (g f : α → D) (p : α → Bool) (hin : t.in vs = true) (hi : fi env S = some (⟨xs, lk⟩, S1)) (hk : Wk.ok ⟨xs, lk⟩ S1 = true) (ex : xs = L.map g)
    (h : ∀ a ∈ L, ∃ env1, t.set (g a) (wipeE env vs) = some env1 ∧ c env1 S1 = some (p a, S1) ∧ (p a = true → e env1 S1 = some (.d (f a), S1))) (hz : L.length ≤ 100000) : mLc mk fi t c e vs env S = some (newL mk ((L.filter p).map f) S1) := by
  subst ex
  unfold mLc
  rw [if_pos hin, hi]
  simp only [Option.bind_some]
  rw [lcM_L hk p g f h (by rw [sizeLine_eq]; simp; omega)]
  simp
/-- a comprehension over a row of anything, data -/
theorem mLc_L {α : Type} {fi : MI} {t : CT} {e : ME} {vs : List Nat} {env : Env} {S S1 : Sto} {xs : List D} (L : List α) (g f : α → D) (hin : t.in vs = true) (hi : fi env S = some (⟨xs, none⟩, S1)) (ex : xs = L.map g)
    (h : ∀ a ∈ L, ∃ env1, t.set (g a) (wipeE env vs) = some env1 ∧ e env1 S1 = some (.d (f a), S1)) (hz : L.length ≤ 100000) : mLc .pure fi t tYesM e vs env S = some (.d (.lst (L.map f)), S1) := by
  have := mLc_Lp (mk := .pure) L g f (fun _ => true) hin hi rfl ex (c := tYesM) (e := e) (fun a ha => by
    obtain ⟨env1, h1, h2⟩ := h a ha
    exact ⟨env1, h1, rfl, fun _ => h2⟩) hz
  rw [List.filter_eq_self.mpr fun _ _ => rfl] at this
  exact this
theorem mLc_R {fi : MI} {t : CT} {e : ME} {vs : List Nat} {env : Env} {S S1 : Sto} {N : Nat} (f : Nat → D) (hin : t.in vs = true) (hi : fi env S = some (⟨upFrom 0 N, none⟩, S1))
    (h : ∀ i, i < N → ∃ env1, t.set (.int i) (wipeE env vs) = some env1 ∧ e env1 S1 = some (.d (f i), S1)) (hz : N ≤ 100000) : mLc .pure fi t tYesM e vs env S = some (.d (.lst ((List.range N).map f)), S1) :=
  mLc_L (List.range N) (fun i : Nat => D.int (i : Int)) f hin hi (upFrom_eq N) (fun i hi => h i (List.mem_range.mp hi)) (by simpa using hz)
theorem filter_lt_range {M k : Nat} (h : k ≤ M) : (List.range M).filter (fun j => decide (j < k)) = List.range k := by
  obtain ⟨d, rfl⟩ : ∃ d, M = k + d := ⟨M - k, by omega⟩
  rw [List.range_add, List.filter_append, List.filter_eq_self.mpr fun x hx => decide_eq_true (List.mem_range.mp hx)]
  rw [List.filter_eq_nil_iff.mpr fun x hx => by
    obtain ⟨i, _, rfl⟩ := List.mem_map.mp hx
    simp]
  simp
end MW
end
section
set_option maxRecDepth 100000
/-! MX, part a: what is awaited over all subsets of a row, each item standing by its chance. -/
namespace MW
variable {α β : Type}
def Ex (p : α → Rat) : List α → (List α → Rat) → Rat
  | [], f => f []
  | t :: T, f => p t * Ex p T (fun S => f (t :: S)) + (1 - p t) * Ex p T f
variable {p : α → Rat} {T T1 T2 : List α} {f g : List α → Rat}
theorem Ex_congr : ∀ {T : List α} {f g : List α → Rat}, (∀ S : List α, S.Sublist T → f S = g S) → Ex p T f = Ex p T g
  | [], f, g, h => h [] (List.Sublist.refl _)
  | t :: T, f, g, h => by
    unfold Ex
    rw [Ex_congr fun S hS => h (t :: S) (List.Sublist.cons_cons t hS), Ex_congr fun S hS => h S (List.Sublist.cons t hS)]
theorem Ex_const (c : Rat) : ∀ T : List α, Ex p T (fun _ => c) = c
  | [] => rfl
  | t :: T => by
    unfold Ex
    rw [Ex_const c T]
    grind
theorem Ex_mul (c : Rat) : ∀ (T : List α) (f : List α → Rat), Ex p T (fun S => c * f S) = c * Ex p T f
  | [], f => rfl
  | t :: T, f => by
    unfold Ex
    rw [Ex_mul c T, Ex_mul c T]
    grind
theorem Ex_add : ∀ (T : List α) (f g : List α → Rat), Ex p T (fun S => f S + g S) = Ex p T f + Ex p T g
  | [], f, g => rfl
  | t :: T, f, g => by
    unfold Ex
    rw [Ex_add T, Ex_add T]
    grind
theorem Ex_swap (a b : α) (T : List α) (f : List α → Rat) (h : ∀ S, f (a :: b :: S) = f (b :: a :: S)) : Ex p (a :: b :: T) f = Ex p (b :: a :: T) f := by
  simp only [Ex]
  have : (fun S => f (a :: b :: S)) = fun S => f (b :: a :: S) := funext h
  rw [this]
  grind
theorem Ex_perm {T T' : List α} (h : T.Perm T') : ∀ {f : List α → Rat}, (∀ S S', S.Perm S' → f S = f S') → Ex p T f = Ex p T' f := by
  induction h with
  | nil => intro f _; rfl
  | cons x _ ih =>
    intro f hf
    unfold Ex
    rw [ih fun S S' h => hf _ _ (h.cons x), ih hf]
  | swap x y l =>
    intro f hf
    exact Ex_swap _ _ _ _ fun S => hf _ _ (List.Perm.swap _ _ _)
  | trans _ _ a b =>
    intro f hf
    rw [a hf, b hf]
theorem Ex_map (q : β → α) : ∀ (T : List β) (f : List α → Rat), Ex p (T.map q) f = Ex (fun t => p (q t)) T fun S => f (S.map q)
  | [], f => rfl
  | t :: T, f => by
    simp only [List.map_cons, Ex]
    rw [Ex_map q T, Ex_map q T]
theorem Ex_p {p q : α → Rat} : ∀ {T : List α} {f : List α → Rat}, (∀ t ∈ T, p t = q t) → Ex p T f = Ex q T f
  | [], f, _ => rfl
  | t :: T, f, h => by
    unfold Ex
    rw [h t List.mem_cons_self, Ex_p fun x hx => h x (List.mem_cons_of_mem _ hx), Ex_p fun x hx => h x (List.mem_cons_of_mem _ hx)]
theorem Ex_append : ∀ (T1 T2 : List α) (f : List α → Rat), Ex p (T1 ++ T2) f = Ex p T1 fun S1 => Ex p T2 fun S2 => f (S1 ++ S2)
  | [], T2, f => rfl
  | t :: T, T2, f => by
    simp only [List.cons_append, Ex]
    rw [Ex_append T T2, Ex_append T T2]
/-- two rows that stand by themselves -/
theorem Ex_split {T1 T2 : List α} {f g h : List α → Rat} (e : ∀ S1 S2 : List α, S1.Sublist T1 → S2.Sublist T2 → f (S1 ++ S2) = g S1 * h S2) : Ex p (T1 ++ T2) f = Ex p T1 g * Ex p T2 h := by
  rw [Ex_append]
  have e1 : ∀ S1 : List α, S1.Sublist T1 → Ex p T2 (fun S2 => f (S1 ++ S2)) = g S1 * Ex p T2 h := fun S1 h1 => by
    rw [← Ex_mul]
    exact Ex_congr fun S2 h2 => e S1 S2 h1 h2
  rw [Ex_congr e1]
  have e2 : (fun S1 => g S1 * Ex p T2 h) = fun S1 => Ex p T2 h * g S1 := funext fun S => Rat.mul_comm _ _
  rw [e2, Ex_mul, Rat.mul_comm]
theorem Ex_nonneg : ∀ {T : List α} {f : List α → Rat}, (∀ t ∈ T, 0 ≤ p t ∧ p t ≤ 1) → (∀ S : List α, S.Sublist T → 0 ≤ f S) → 0 ≤ Ex p T f
  | [], f, _, h => h [] (List.Sublist.refl _)
  | t :: T, f, hp, h => by
    unfold Ex
    have h1 := Ex_nonneg (fun x hx => hp x (List.mem_cons_of_mem _ hx)) fun S hS => h (t :: S) (List.Sublist.cons_cons t hS)
    have h2 := Ex_nonneg (fun x hx => hp x (List.mem_cons_of_mem _ hx)) fun S hS => h S (List.Sublist.cons t hS)
    have h3 := hp t List.mem_cons_self
    have a := Rat.mul_nonneg h3.1 h1
    have b := Rat.mul_nonneg (show 0 ≤ 1 - p t by grind) h2
    grind
open Classical in
/-- one or nothing -/
noncomputable def ind (P : Prop) : Rat := if P then 1 else 0
theorem ind_t {P : Prop} (h : P) : ind P = 1 := by unfold ind; rw [if_pos h]
theorem ind_f {P : Prop} (h : ¬ P) : ind P = 0 := by unfold ind; rw [if_neg h]
theorem ind_iff {P Q : Prop} (h : P ↔ Q) : ind P = ind Q := by rw [propext h]
theorem ind_and (P Q : Prop) : ind (P ∧ Q) = ind P * ind Q := by
  by_cases h : P <;> by_cases k : Q <;> simp [ind, h, k]
theorem ind_ge (P : Prop) : 0 ≤ ind P := by unfold ind; split <;> decide
theorem ind_le (P : Prop) : ind P ≤ 1 := by unfold ind; split <;> decide
/-- the numbers of a row, one by one -/
def prodR : List Rat → Rat
  | [] => 1
  | x :: xs => x * prodR xs
theorem prodR_append : ∀ xs ys : List Rat, prodR (xs ++ ys) = prodR xs * prodR ys
  | [], ys => by simp [prodR]
  | x :: xs, ys => by
    simp only [List.cons_append, prodR]
    rw [prodR_append xs ys]
    grind
def sumR : List Rat → Rat
  | [] => 0
  | x :: xs => x + sumR xs
theorem sumR_append : ∀ xs ys : List Rat, sumR (xs ++ ys) = sumR xs + sumR ys
  | [], ys => by simp only [List.nil_append, sumR]; grind
  | x :: xs, ys => by
    simp only [List.cons_append, sumR]
    rw [sumR_append xs ys]
    grind
theorem sumR_perm {xs ys : List Rat} (h : xs.Perm ys) : sumR xs = sumR ys := by
  induction h with
  | nil => rfl
  | cons x _ ih => simp [sumR, ih]
  | swap x y l => simp only [sumR]; grind
  | trans _ _ a b => rw [a, b]
theorem prodR_perm {xs ys : List Rat} (h : xs.Perm ys) : prodR xs = prodR ys := by
  induction h with
  | nil => rfl
  | cons x _ ih => simp [prodR, ih]
  | swap x y l => simp only [prodR]; grind
  | trans _ _ a b => rw [a, b]
/-- the chance that all of some stand -/
theorem Ex_all (q : α → Bool) : ∀ {T : List α}, T.Nodup → Ex p T (fun S => ind (∀ t ∈ T, q t = true → t ∈ S)) = prodR ((T.filter q).map p)
  | [], _ => by
    show ind _ = 1
    exact ind_t fun t h => by cases h
  | t :: T, hn => by
    unfold Ex
    obtain ⟨hnot, hn'⟩ := List.nodup_cons.mp hn
    have ih := Ex_all q hn'
    by_cases h : q t = true
    · have e1 : ∀ S : List α, S.Sublist T → ind (∀ x ∈ t :: T, q x = true → x ∈ t :: S) = ind (∀ x ∈ T, q x = true → x ∈ S) := fun S hS => ind_iff ⟨fun k x hx hq => by
          rcases List.mem_cons.mp (k x (List.mem_cons_of_mem _ hx) hq) with e | e
          · subst e; exact absurd hx hnot
          · exact e, fun k x hx hq => by
          rcases List.mem_cons.mp hx with e | e
          · subst e; exact List.mem_cons_self
          · exact List.mem_cons_of_mem _ (k x e hq)⟩
      have e2 : ∀ S : List α, S.Sublist T → ind (∀ x ∈ t :: T, q x = true → x ∈ S) = 0 := fun S hS => ind_f fun k => hnot (hS.subset (k t List.mem_cons_self h))
      rw [Ex_congr e1, Ex_congr e2, Ex_const, ih, List.filter_cons_of_pos h]
      simp only [List.map_cons, prodR]
      grind
    · have e1 : ∀ S : List α, S.Sublist T → ind (∀ x ∈ t :: T, q x = true → x ∈ t :: S) = ind (∀ x ∈ T, q x = true → x ∈ S) := fun S hS => ind_iff ⟨fun k x hx hq => by
          rcases List.mem_cons.mp (k x (List.mem_cons_of_mem _ hx) hq) with e | e
          · subst e; exact absurd hx hnot
          · exact e, fun k x hx hq => by
          rcases List.mem_cons.mp hx with e | e
          · subst e; exact absurd hq h
          · exact List.mem_cons_of_mem _ (k x e hq)⟩
      have e2 : ∀ S : List α, S.Sublist T → ind (∀ x ∈ t :: T, q x = true → x ∈ S) = ind (∀ x ∈ T, q x = true → x ∈ S) := fun S hS => ind_iff ⟨fun k x hx hq => k x (List.mem_cons_of_mem _ hx) hq, fun k x hx hq => by
          rcases List.mem_cons.mp hx with e | e
          · subst e; exact absurd hq h
          · exact k x e hq⟩
      rw [Ex_congr e1, Ex_congr e2, ih, List.filter_cons_of_neg h]
      grind
/-! ### numbers n / d -/
theorem Rat.mul_den_eq_num' (r : Rat) : r * r.den = r.num := by
  have h : (r.num : Rat) / (r.den : Rat) = r := by
    have h1 := Rat.num_divInt_den r
    rw [Rat.divInt_eq_div] at h1
    exact_mod_cast h1
  have hd : (r.den : Rat) ≠ 0 := by exact_mod_cast r.den_nz
  have := Rat.mul_inv_cancel _ hd
  rw [Rat.div_def] at h
  grind
/-- r is a whole number of d-ths -/
def Part (r : Rat) (d : Nat) : Prop := ∃ n : Int, r * d = n
theorem Part.add {r s : Rat} {d : Nat} (a : Part r d) (b : Part s d) : Part (r + s) d := by
  obtain ⟨m, h⟩ := a
  obtain ⟨n, k⟩ := b
  exact ⟨m + n, by rw [Rat.intCast_add, ← h, ← k]; grind⟩
theorem Part.mul {r s : Rat} {d e : Nat} (a : Part r d) (b : Part s e) : Part (r * s) (d * e) := by
  obtain ⟨m, h⟩ := a
  obtain ⟨n, k⟩ := b
  exact ⟨m * n, by rw [Rat.intCast_mul, Rat.natCast_mul, ← h, ← k]; grind⟩
theorem Part.zero (d : Nat) : Part 0 d := ⟨0, by simp⟩
theorem Part.self (r : Rat) : Part r r.den := ⟨r.num, Rat.mul_den_eq_num' r⟩
theorem Part.more {r : Rat} {d : Nat} (a : Part r d) (e : Nat) : Part r (d * e) := by
  obtain ⟨m, h⟩ := a
  exact ⟨m * e, by rw [Rat.natCast_mul, Rat.intCast_mul, ← h, ← Rat.mul_assoc]; rfl⟩
theorem Part.rest {r : Rat} {d : Nat} (a : Part r d) : Part (1 - r) d := by
  obtain ⟨m, h⟩ := a
  exact ⟨(d : Int) - m, by rw [Rat.intCast_sub, ← h]; show (1 - r) * (d : Rat) = (d : Rat) - r * d; grind⟩
theorem Part.eq {r : Rat} {d : Nat} (h0 : d ≠ 0) {n : Int} (h : r * d = n) : r = Rat.divInt n d := by
  rw [Rat.divInt_eq_div, ← h]
  have hd : (d : Rat) ≠ 0 := by exact_mod_cast h0
  show r = r * (d : Rat) / (d : Rat)
  rw [Rat.div_def, Rat.mul_assoc, Rat.mul_inv_cancel _ hd, Rat.mul_one]
theorem Part.sz {r : Rat} {d B : Nat} (a : Part r d) (h0 : d ≠ 0) (hd : d < 2 ^ B) (r0 : 0 ≤ r) (r1 : r ≤ 1) : Sz r B := by
  obtain ⟨n, h⟩ := a
  rw [Part.eq h0 h]
  have hd' : (0 : Rat) < (d : Rat) := by exact_mod_cast Nat.pos_of_ne_zero h0
  have h1 : (0 : Rat) ≤ (n : Rat) := by rw [← h]; exact Rat.mul_nonneg r0 (Rat.le_of_lt hd')
  have h2 : (n : Rat) ≤ (d : Rat) := by
    rw [← h]
    have := Rat.mul_le_mul_of_nonneg_right r1 (Rat.le_of_lt hd')
    rw [Rat.one_mul] at this
    exact this
  have h1' : 0 ≤ n := by exact_mod_cast h1
  have h2' : n ≤ d := by exact_mod_cast h2
  exact sz_divInt (by omega) (by omega) (by omega)
end MW
end
section
set_option maxRecDepth 100000
/-! MX, part b: ties that lead one way, what is reached by those that stand. -/
namespace MW
open PySem
structure Tie where
  a : Int
  b : Int
  c : Rat
  deriving DecidableEq
def Tie.d (t : Tie) : D := .tup [.int t.a, .int t.b, fr t.c]
inductive Rch (S : List Tie) (P : List Int) : Int → Prop where
  | base {x : Int} : x ∈ P → Rch S P x
  | step {t : Tie} : Rch S P t.a → t ∈ S → Rch S P t.b
theorem Rch.mono {S S' : List Tie} {P P' : List Int} (h1 : ∀ t ∈ S, t ∈ S') (h2 : ∀ x ∈ P, x ∈ P') {x : Int} (h : Rch S P x) : Rch S' P' x := by
  induction h with
  | base h => exact .base (h2 _ h)
  | step _ h ih => exact .step ih (h1 _ h)
theorem Rch.congr {S S' : List Tie} {P P' : List Int} (h1 : ∀ t, t ∈ S ↔ t ∈ S') (h2 : ∀ x, x ∈ P ↔ x ∈ P') : Rch S P = Rch S' P' :=
  funext fun _ => propext ⟨Rch.mono (fun t h => (h1 t).mp h) fun x h => (h2 x).mp h, Rch.mono (fun t h => (h1 t).mpr h) fun x h => (h2 x).mpr h⟩
theorem Rch.front {S : List Tie} {P : List Int} {t : Tie} (ha : t.a ∈ P) : Rch (t :: S) P = Rch S (t.b :: P) := funext fun x => propext ⟨fun h => by
  induction h with
  | base h => exact .base (List.mem_cons_of_mem _ h)
  | step _ h ih =>
    rcases List.mem_cons.mp h with e | e
    · rw [e]; exact .base List.mem_cons_self
    · exact .step ih e, fun h => by
  induction h with
  | base h =>
    rcases List.mem_cons.mp h with e | e
    · rw [e]; exact .step (.base ha) List.mem_cons_self
    · exact .base e
  | step _ h ih => exact .step ih (List.mem_cons_of_mem _ h)⟩
theorem Rch.stop {S : List Tie} {P : List Int} (h : ∀ t ∈ S, t.a ∈ P → t.b ∈ P) : Rch S P = fun x => x ∈ P := funext fun x => propext ⟨fun r => by
  induction r with
  | base h => exact h
  | step _ ht ih => exact h _ ht ih, .base⟩
theorem Rch.trans {S : List Tie} {P : List Int} {y z : Int} (h1 : Rch S P y) (h2 : Rch S [y] z) : Rch S P z := by
  induction h2 with
  | base h => rw [List.mem_singleton.mp h]; exact h1
  | step _ ht ih => exact .step ih ht
def Tie.rev (t : Tie) : Tie := ⟨t.b, t.a, t.c⟩
theorem Rch.rev1 {S : List Tie} {x y : Int} (h : Rch S [x] y) : Rch (S.map Tie.rev) [y] x := by
  induction h with
  | base h => rw [List.mem_singleton.mp h]; exact .base List.mem_cons_self
  | @step t _ ht ih =>
    have : Rch (S.map Tie.rev) [t.b] t.a := by
      have h1 : t.rev ∈ S.map Tie.rev := List.mem_map.mpr ⟨t, ht, rfl⟩
      have h2 : Rch (S.map Tie.rev) [t.b] t.rev.a := .base List.mem_cons_self
      exact .step (t := t.rev) h2 h1
    exact this.trans ih
theorem map_rev_rev (S : List Tie) : (S.map Tie.rev).map Tie.rev = S := by
  rw [List.map_map]
  exact List.map_id'' (fun _ => rfl) S
theorem Rch.rev {S : List Tie} {x y : Int} : Rch (S.map Tie.rev) [y] x ↔ Rch S [x] y := ⟨fun h => by
  have := h.rev1
  rw [map_rev_rev] at this
  exact this, Rch.rev1⟩
/-- places by other names -/
def Tie.ren (f : Int → Int) (t : Tie) : Tie := ⟨f t.a, f t.b, t.c⟩
theorem Rch.ren1 {S : List Tie} {P : List Int} (f : Int → Int) {x : Int} (h : Rch S P x) : Rch (S.map (Tie.ren f)) (P.map f) (f x) := by
  induction h with
  | base h => exact .base (List.mem_map_of_mem h)
  | @step t _ ht ih => exact .step (t := t.ren f) ih (List.mem_map_of_mem ht)
theorem Rch.ren {S : List Tie} {P : List Int} (f : Int → Int) (dom : List Int) (inj : ∀ x ∈ dom, ∀ y ∈ dom, f x = f y → x = y) (hS : ∀ t ∈ S, t.a ∈ dom ∧ t.b ∈ dom) (hP : ∀ x ∈ P, x ∈ dom) {x : Int} (hx : x ∈ dom) :
    Rch (S.map (Tie.ren f)) (P.map f) (f x) ↔ Rch S P x := ⟨fun h => by
  have key : ∀ z, Rch (S.map (Tie.ren f)) (P.map f) z → ∃ y ∈ dom, f y = z ∧ Rch S P y := by
    intro z h
    induction h with
    | base h =>
      obtain ⟨y, hy, e⟩ := List.mem_map.mp h
      exact ⟨y, hP y hy, e, .base hy⟩
    | @step t _ ht ih =>
      obtain ⟨t', ht', e⟩ := List.mem_map.mp ht
      obtain ⟨y, hy, e2, hr⟩ := ih
      subst e
      have := inj y hy t'.a (hS t' ht').1 e2
      subst this
      exact ⟨t'.b, (hS t' ht').2, rfl, .step hr ht'⟩
  obtain ⟨y, hy, e, hr⟩ := key _ h
  rw [← inj y hy x hx e]
  exact hr, Rch.ren1 f⟩
/-- the chance that what is reached is so -/
noncomputable def RX (L : List Tie) (P : List Int) (G : (Int → Prop) → Prop) : Rat := Ex Tie.c L fun S => ind (G (Rch S P))
theorem RX.perm {L L' : List Tie} (h : L.Perm L') {P P' : List Int} (h2 : ∀ x, x ∈ P ↔ x ∈ P') (G : (Int → Prop) → Prop) : RX L P G = RX L' P' G := by
  unfold RX
  rw [Ex_perm h fun S S' hS => by rw [Rch.congr (fun t => hS.mem_iff) fun x => Iff.rfl]]
  exact Ex_congr fun S _ => by rw [Rch.congr (fun t => Iff.rfl) h2]
theorem RX.front {L L' : List Tie} {t : Tie} {P : List Int} (h : L.Perm (t :: L')) (ha : t.a ∈ P) (G : (Int → Prop) → Prop) : RX L P G = t.c * RX L' (t.b :: P) G + (1 - t.c) * RX L' P G := by
  rw [RX.perm h (fun _ => Iff.rfl) G]
  show t.c * _ + (1 - t.c) * _ = _
  have e : (fun S => ind (G (Rch (t :: S) P))) = fun S => ind (G (Rch S (t.b :: P))) := funext fun S => by rw [Rch.front ha]
  show t.c * Ex Tie.c L' (fun S => ind (G (Rch (t :: S) P))) + _ = _
  rw [e]
  rfl
theorem RX.stop {L : List Tie} {P : List Int} (h : ∀ t ∈ L, t.a ∈ P → t.b ∈ P) (G : (Int → Prop) → Prop) : RX L P G = ind (G fun x => x ∈ P) := by
  unfold RX
  rw [Ex_congr (g := fun _ => ind (G fun x => x ∈ P)) fun S hS => by rw [Rch.stop fun t ht => h t (hS.subset ht)], Ex_const]
theorem RX.one (L : List Tie) (P : List Int) : RX L P (fun _ => True) = 1 := by
  unfold RX
  rw [Ex_congr (g := fun _ => 1) fun S _ => ind_t trivial, Ex_const]
theorem RX.ge {L : List Tie} (h : ∀ t ∈ L, 0 ≤ t.c ∧ t.c ≤ 1) (P : List Int) (G : (Int → Prop) → Prop) : 0 ≤ RX L P G := Ex_nonneg h fun _ _ => ind_ge _
/-- all ways turned round -/
theorem RX.rev (L : List Tie) (x y : Int) : RX (L.map Tie.rev) [y] (fun R => R x) = RX L [x] fun R => R y := by
  unfold RX
  rw [Ex_map]
  exact Ex_congr fun S _ => ind_iff Rch.rev
/-- two ties from the same place to the same -/
theorem RX.twin {t u v : Tie} (L : List Tie) (P : List Int) (G : (Int → Prop) → Prop) (h1 : t.a = u.a) (h2 : t.b = u.b) (k1 : v.a = t.a) (k2 : v.b = t.b) (hc : v.c = 1 - (1 - t.c) * (1 - u.c)) : RX (t :: u :: L) P G = RX (v :: L) P G := by
  have sub : ∀ (A B : List Tie), (∀ x ∈ A, ∃ y ∈ B, y.a = x.a ∧ y.b = x.b) → ∀ z, Rch A P z → Rch B P z := by
    intro A B h z r
    induction r with
    | base h => exact .base h
    | @step x _ hx ih =>
      obtain ⟨y, hy, e1, e2⟩ := h x hx
      rw [← e2]
      exact .step (by rw [e1]; exact ih) hy
  have same : ∀ (A B : List Tie), (∀ x ∈ A, ∃ y ∈ B, y.a = x.a ∧ y.b = x.b) → (∀ x ∈ B, ∃ y ∈ A, y.a = x.a ∧ y.b = x.b) → Rch A P = Rch B P := fun A B h k =>
    funext fun z => propext ⟨sub A B h z, sub B A k z⟩
  have e1 : ∀ S, Rch (t :: u :: S) P = Rch (v :: S) P := fun S => same _ _ (fun x hx => by
    rcases List.mem_cons.mp hx with e | hx
    · exact ⟨v, List.mem_cons_self, by rw [e, k1], by rw [e, k2]⟩
    · rcases List.mem_cons.mp hx with e | hx
      · exact ⟨v, List.mem_cons_self, by rw [e, k1, h1], by rw [e, k2, h2]⟩
      · exact ⟨x, List.mem_cons_of_mem _ hx, rfl, rfl⟩) (fun x hx => by
    rcases List.mem_cons.mp hx with e | hx
    · exact ⟨t, List.mem_cons_self, by rw [e, k1], by rw [e, k2]⟩
    · exact ⟨x, List.mem_cons_of_mem _ (List.mem_cons_of_mem _ hx), rfl, rfl⟩)
  have e2 : ∀ S, Rch (t :: S) P = Rch (v :: S) P := fun S => same _ _ (fun x hx => by
    rcases List.mem_cons.mp hx with e | hx
    · exact ⟨v, List.mem_cons_self, by rw [e, k1], by rw [e, k2]⟩
    · exact ⟨x, List.mem_cons_of_mem _ hx, rfl, rfl⟩) (fun x hx => by
    rcases List.mem_cons.mp hx with e | hx
    · exact ⟨t, List.mem_cons_self, by rw [e, k1], by rw [e, k2]⟩
    · exact ⟨x, List.mem_cons_of_mem _ hx, rfl, rfl⟩)
  have e3 : ∀ S, Rch (u :: S) P = Rch (v :: S) P := fun S => same _ _ (fun x hx => by
    rcases List.mem_cons.mp hx with e | hx
    · exact ⟨v, List.mem_cons_self, by rw [e, k1, h1], by rw [e, k2, h2]⟩
    · exact ⟨x, List.mem_cons_of_mem _ hx, rfl, rfl⟩) (fun x hx => by
    rcases List.mem_cons.mp hx with e | hx
    · exact ⟨u, List.mem_cons_self, by rw [e, k1, h1], by rw [e, k2, h2]⟩
    · exact ⟨x, List.mem_cons_of_mem _ hx, rfl, rfl⟩)
  unfold RX
  simp only [Ex]
  rw [show (fun S => ind (G (Rch (t :: u :: S) P))) = fun S => ind (G (Rch (v :: S) P)) from funext fun S => by rw [e1],
    show (fun S => ind (G (Rch (t :: S) P))) = fun S => ind (G (Rch (v :: S) P)) from funext fun S => by rw [e2],
    show (fun S => ind (G (Rch (u :: S) P))) = fun S => ind (G (Rch (v :: S) P)) from funext fun S => by rw [e3], hc]
  grind
/-- other names for the places -/
theorem RX.ren (f : Int → Int) (dom : List Int) (inj : ∀ x ∈ dom, ∀ y ∈ dom, f x = f y → x = y) {L : List Tie} (hL : ∀ t ∈ L, t.a ∈ dom ∧ t.b ∈ dom) {x y : Int} (hx : x ∈ dom) (hy : y ∈ dom) : RX (L.map (Tie.ren f)) [f x] (fun R => R (f y)) = RX L [x] fun R => R y := by
  unfold RX
  rw [Ex_map]
  refine Ex_congr fun S hS => ind_iff ?_
  exact Rch.ren (P := [x]) f dom inj (fun t ht => hL t (hS.subset ht)) (fun z hz => by rw [List.mem_singleton.mp hz]; exact hx) hy

/-! ### ties as data -/
def rvD : D → Rat
  | .tup [.int a, .int b] => Rat.divInt a b
  | _ => 0
theorem rvD_fr (r : Rat) : rvD (fr r) = r := by
  show Rat.divInt r.num r.den = r
  exact Rat.num_divInt_den r
def Tie.of : D → Tie
  | .tup [.int a, .int b, c] => ⟨a, b, rvD c⟩
  | _ => ⟨0, 0, 0⟩
theorem Tie.of_d (t : Tie) : Tie.of t.d = t := by
  show (⟨t.a, t.b, rvD (fr t.c)⟩ : Tie) = t
  rw [rvD_fr]
theorem Tie.of_map (L : List Tie) : (L.map Tie.d).map Tie.of = L := by
  rw [List.map_map]
  exact List.map_id'' (fun t => t.of_d) L
theorem Tie.d_inj {t u : Tie} (h : t.d = u.d) : t = u := by rw [← t.of_d, ← u.of_d, h]
theorem Tie.okd (t : Tie) (n : Nat) : okD (n + 3) t.d := ⟨by simp, fun x hx => by
  simp only [List.mem_cons, List.not_mem_nil, or_false] at hx
  rcases hx with rfl | rfl | rfl
  · exact okD_i _ _
  · exact okD_i _ _
  · exact okD_fr' _ _⟩
theorem Tie.cmp (t u : Tie) : D.cmp t.d u.d = true := by
  simp [D.cmp, Tie.d, fr_eq, D.py, D.pys, pCmp, pCmps]
theorem Tie.eqv (t u : Tie) : D.eqv t.d u.d = decide (t = u) := by
  have h := pEqv t.d.py u.d.py (Tie.cmp t u)
  rw [Bool.eq_iff_iff, decide_eq_true_eq]
  refine h.trans ⟨fun e => Tie.d_inj ?_, fun e => by rw [e]⟩
  rw [← toD_py t.d (Tie.cmp t t), ← toD_py u.d (Tie.cmp u u), e]
theorem Tie.srt (L : List Tie) : D.srtOk (L.map Tie.d) = true := by
  unfold D.srtOk
  rw [Bool.and_eq_true, List.all_eq_true, List.all_eq_true]
  refine ⟨fun x hx => List.all_eq_true.mpr fun y hy => ?_, fun x hx => ?_⟩
  · obtain ⟨t, _, rfl⟩ := List.mem_map.mp hx
    obtain ⟨u, _, rfl⟩ := List.mem_map.mp hy
    exact Tie.cmp t u
  · obtain ⟨t, _, rfl⟩ := List.mem_map.mp hx
    rw [okD_shp (t.okd 0)]
    rfl
/-- ties in their order -/
theorem Tie.sorted (L : List Tie) : ∃ L' : List Tie, L'.Perm L ∧ D.sort (L.map Tie.d) = L'.map Tie.d ∧ (L'.map Tie.d).Pairwise fun x y => D.lt y x = false := by
  have hp := D.sort_perm (L.map Tie.d)
  have e : ((D.sort (L.map Tie.d)).map Tie.of).map Tie.d = D.sort (L.map Tie.d) := by
    rw [List.map_map]
    conv => rhs; rw [← List.map_id (D.sort (L.map Tie.d))]
    refine List.map_congr_left fun x hx => ?_
    obtain ⟨t, _, rfl⟩ := List.mem_map.mp (hp.mem_iff.mp hx)
    show (Tie.of t.d).d = t.d
    rw [t.of_d]
  refine ⟨(D.sort (L.map Tie.d)).map Tie.of, ?_, e.symm, ?_⟩
  · have := hp.map Tie.of
    rw [Tie.of_map] at this
    exact this
  · rw [e]; exact D.sort_sorted _
theorem gSorted_ties (mk : Mk) {w : W} {S : Sto} {L : List Tie} (h : W.list S w = some (L.map Tie.d)) : ∃ L' : List Tie, L'.Perm L ∧ gSorted mk [w] S = some (newL mk (L'.map Tie.d) S) ∧ (L'.map Tie.d).Pairwise fun x y => D.lt y x = false := by
  obtain ⟨L', h1, h2, h3⟩ := Tie.sorted L
  refine ⟨L', h1, ?_, h3⟩
  show ((W.list S w).bind fun xs => if D.srtOk xs = true then some (newL mk (D.sort xs) S) else none) = _
  rw [h]
  simp only [Option.bind_some]
  rw [if_pos (Tie.srt L), h2]
/-- the first of its equals taken out -/
theorem Tie.out {L : List Tie} {t : Tie} (h : t ∈ L) : ∃ (j : Nat) (L' : List Tie), gIndexL (.d (.lst (L.map Tie.d))) [.d t.d] = (fun S => some (.d (.int j), S)) ∧ j < L.length ∧ L.take j ++ L.drop (j + 1) = L' ∧ L.Perm (t :: L') := by
  obtain ⟨j, hj⟩ : ∃ j, D.at? (L.map Tie.d) t.d = some j := by
    unfold D.at?
    cases e : (L.map Tie.d).findIdx? fun z => D.eqv z t.d with
    | some j => exact ⟨j, rfl⟩
    | none =>
      rw [List.findIdx?_eq_none_iff] at e
      have := e t.d (List.mem_map_of_mem h)
      rw [Tie.eqv] at this
      simp at this
  have hj' := hj
  unfold D.at? at hj
  obtain ⟨h1, h2, _⟩ := List.findIdx?_eq_some_iff_getElem.mp hj
  have hl : j < L.length := by simpa using h1
  have e : L[j] = t := by
    rw [List.getElem_map, Tie.eqv] at h2
    simpa using h2
  refine ⟨j, _, ?_, hl, rfl, ?_⟩
  · funext S
    unfold gIndexL
    have hs : D.shp (.lst (L.map Tie.d)) = true := by
      have key : ∀ l : List Tie, PyData.canLayAll0 (D.pys (l.map Tie.d)) = true ∧ PyData.depthAll (D.pys (l.map Tie.d)) ≤ 3 := by
        intro l
        induction l with
        | nil => exact ⟨rfl, Nat.zero_le _⟩
        | cons x l ih =>
          obtain ⟨a, b⟩ := okD_lay 3 x.d (x.okd 0)
          refine ⟨?_, ?_⟩
          · show (PyData.canLay0 x.d.py && PyData.canLayAll0 (D.pys (l.map Tie.d))) = true
            rw [a, ih.1]; rfl
          · show max (PyData.depth x.d.py) (PyData.depthAll (D.pys (l.map Tie.d))) ≤ 3
            have := ih.2
            omega
      obtain ⟨a, b⟩ := key L
      show (PyData.canLayAll0 (D.pys (L.map Tie.d)) && decide (PyData.depthAll (D.pys (L.map Tie.d)) + 1 ≤ 64)) = true
      rw [a, Bool.true_and, decide_eq_true_eq]
      omega
    show (if D.shp (.lst (L.map Tie.d)) = true ∧ D.shp t.d = true then (D.at? (L.map Tie.d) t.d).bind fun j => some (W.d (.int j), S) else none) = _
    rw [if_pos ⟨hs, okD_shp (t.okd 0)⟩, hj']
    rfl
  · conv => lhs; rw [← List.take_append_drop j L, List.drop_eq_getElem_cons hl, e]
    exact List.perm_middle
end MW
end
section
set_option maxRecDepth 100000
/-! MX, part c: rows and rings of one-way ties. -/
namespace MW
section
variable {n : Nat} {ν : Nat → Int} {c : Nat → Rat}
/-- the i-th tie of a ring of n places -/
def rt (n : Nat) (ν : Nat → Int) (c : Nat → Rat) (i : Nat) : Tie := ⟨ν i, ν ((i + 1) % n), c i⟩
theorem ring_reach (hn : 0 < n) (inj : ∀ i j, i < n → j < n → ν i = ν j → i = j) {S : List Tie} (hS : ∀ t ∈ S, ∃ i, i < n ∧ t = rt n ν c i) (s : Nat) {m : Nat} (hm : m < n) :
    Rch S [ν (s % n)] (ν ((s + m) % n)) ↔ ∀ j, j < m → rt n ν c ((s + j) % n) ∈ S := by
  constructor
  · intro h
    have key : ∀ y, Rch S [ν (s % n)] y → ∃ m, m < n ∧ y = ν ((s + m) % n) ∧ ∀ j, j < m → rt n ν c ((s + j) % n) ∈ S := by
      intro y h
      induction h with
      | base h =>
        rw [List.mem_singleton.mp h]
        exact ⟨0, hn, rfl, fun j hj => by omega⟩
      | @step t _ ht ih =>
        obtain ⟨m, hm, e, h⟩ := ih
        obtain ⟨i, hi, rfl⟩ := hS t ht
        have ei : i = (s + m) % n := inj i _ hi (Nat.mod_lt _ hn) e
        subst ei
        have eb : (rt n ν c ((s + m) % n)).b = ν ((s + (m + 1)) % n) := by
          show ν (((s + m) % n + 1) % n) = _
          rw [Nat.mod_add_mod]
          rfl
        by_cases hl : m + 1 < n
        · refine ⟨m + 1, hl, eb, fun j hj => ?_⟩
          by_cases e : j = m
          · subst e; exact ht
          · exact h j (by omega)
        · refine ⟨0, hn, ?_, fun j hj => by omega⟩
          rw [eb]
          have : m + 1 = n := by omega
          rw [this, Nat.add_zero, Nat.add_mod_right]
    obtain ⟨m', hm', e, hj⟩ := key _ h
    have e2 := inj _ _ (Nat.mod_lt _ hn) (Nat.mod_lt _ hn) e
    have : m = m' := by
      have h1 : (s % n + m) % n = (s % n + m') % n := by rw [Nat.mod_add_mod, Nat.mod_add_mod]; exact e2
      have hs := Nat.mod_lt s hn
      generalize s % n = s0 at h1 hs
      have md : ∀ x, x < n + n → x % n = if x < n then x else x - n := fun x hx => by
        by_cases a : x < n
        · rw [if_pos a, Nat.mod_eq_of_lt a]
        · rw [if_neg a, Nat.mod_eq_sub_mod (by omega), Nat.mod_eq_of_lt (by omega)]
      rw [md _ (by omega), md _ (by omega)] at h1
      split at h1 <;> split at h1 <;> omega
    subst this
    exact hj
  · intro h
    clear hm
    induction m with
    | zero => exact .base List.mem_cons_self
    | succ m ih =>
      have r := ih fun j hj => h j (by omega)
      have ht := h m (by omega)
      have eb : (rt n ν c ((s + m) % n)).b = ν ((s + (m + 1)) % n) := by
        show ν (((s + m) % n + 1) % n) = _
        rw [Nat.mod_add_mod]
        rfl
      rw [← eb]
      exact .step (t := rt n ν c ((s + m) % n)) r ht
/-- the chance that some of a row's ties stand -/
theorem RX_ties (inj : ∀ i j, i < n → j < n → ν i = ν j → i = j) {N : Nat} (hN : N ≤ n) (P : List Int) (G : (Int → Prop) → Prop) (q : Nat → Bool)
    (h : ∀ S : List Nat, S.Sublist (List.range N) → (G (Rch (S.map (rt n ν c)) P) ↔ ∀ j, j < N → q j = true → j ∈ S)) :
    RX ((List.range N).map (rt n ν c)) P G = prodR (((List.range N).filter q).map c) := by
  unfold RX
  rw [Ex_map]
  have e := Ex_all (p := c) q (List.nodup_range (n := N))
  refine Eq.trans ?_ e
  show Ex c (List.range N) _ = _
  refine Ex_congr fun S hS => ind_iff ((h S hS).trans ⟨fun k t ht => k t (List.mem_range.mp ht), fun k j hj => k j (List.mem_range.mpr hj)⟩)
theorem rt_mem (inj : ∀ i j, i < n → j < n → ν i = ν j → i = j) {S : List Nat} (hS : ∀ i ∈ S, i < n) {j : Nat} (hj : j < n) : rt n ν c j ∈ S.map (rt n ν c) ↔ j ∈ S := by
  constructor
  · intro h
    obtain ⟨i, hi, e⟩ := List.mem_map.mp h
    have : ν i = ν j := congrArg Tie.a e
    rw [← inj i j (hS i hi) hj this]
    exact hi
  · exact fun h => List.mem_map_of_mem h
theorem ring_of {S : List Nat} (hS : ∀ i ∈ S, i < n) : ∀ t ∈ S.map (rt n ν c), ∃ i, i < n ∧ t = rt n ν c i := fun t ht => by
  obtain ⟨i, hi, rfl⟩ := List.mem_map.mp ht
  exact ⟨i, hS i hi, rfl⟩
theorem sub_lt {S : List Nat} {N : Nat} (hN : N ≤ n) (hS : S.Sublist (List.range N)) : ∀ i ∈ S, i < n := fun i hi => by
  have := List.mem_range.mp (hS.subset hi)
  omega
/-- forward along a row or a ring -/
theorem RX_fwd (hn : 0 < n) (inj : ∀ i j, i < n → j < n → ν i = ν j → i = j) {N : Nat} (hN : N ≤ n) {k : Nat} (hk : k + 1 < n) (hkN : k < N) :
    RX ((List.range N).map (rt n ν c)) [ν 0] (fun R => R (ν (k + 1))) = prodR (((List.range N).filter fun j => decide (j < k + 1)).map c) := by
  refine RX_ties inj hN _ _ _ fun S hS => ?_
  have hlt := sub_lt hN hS
  have r := ring_reach hn inj (ring_of (c := c) hlt) 0 hk
  rw [Nat.zero_mod, Nat.zero_add, Nat.mod_eq_of_lt hk] at r
  refine r.trans ⟨fun h j hj hq => ?_, fun h j hj => ?_⟩
  · have := h j (of_decide_eq_true hq)
    rw [Nat.zero_add, Nat.mod_eq_of_lt (by omega)] at this
    exact (rt_mem inj hlt (by omega)).mp this
  · rw [Nat.zero_add, Nat.mod_eq_of_lt (by omega)]
    exact (rt_mem inj hlt (by omega)).mpr (h j (by omega) (decide_eq_true hj))
/-- backward along a row -/
theorem RX_bwd (hn : 0 < n) (inj : ∀ i j, i < n → j < n → ν i = ν j → i = j) {k : Nat} (hk : k + 1 < n) :
    RX ((List.range (n - 1)).map (rt n ν c)) [ν (k + 1)] (fun R => R (ν 0)) = 0 := by
  unfold RX
  rw [Ex_map]
  rw [Ex_congr (g := fun _ => 0) fun S hS => ?_, Ex_const]
  refine ind_f fun h => ?_
  have hlt := sub_lt (n := n) (by omega) hS
  have r := ring_reach hn inj (ring_of (c := c) hlt) (k + 1) (m := n - (k + 1)) (by omega)
  have e1 : k + 1 + (n - (k + 1)) = n := by omega
  rw [Nat.mod_eq_of_lt hk, e1, Nat.mod_self] at r
  have := (r.mp h) (n - 1 - (k + 1)) (by omega)
  have e2 : (k + 1 + (n - 1 - (k + 1))) % n = n - 1 := by
    rw [Nat.mod_eq_of_lt (by omega)]; omega
  rw [e2] at this
  have := (rt_mem inj hlt (by omega)).mp this
  have := List.mem_range.mp (hS.subset this)
  omega
/-- all the way round, or along -/
theorem RX_round (hn : 0 < n) (inj : ∀ i j, i < n → j < n → ν i = ν j → i = j) {s : Nat} (hs : s < n) {N : Nat} (hN : N ≤ n) (A : (Int → Prop) → Prop) (hA : ∀ R, A R ↔ ∀ i, i < n → R (ν i)) (hq : ∀ j, j < n → (j + 1) % n ≠ s → j < N) :
    RX ((List.range N).map (rt n ν c)) [ν s] A = prodR (((List.range N).filter fun j => decide ((j + 1) % n ≠ s)).map c) := by
  refine RX_ties inj hN _ _ _ fun S hS => ?_
  have hlt := sub_lt hN hS
  have hr := fun m (hm : m < n) => ring_reach hn inj (ring_of (c := c) hlt) s hm
  rw [Nat.mod_eq_of_lt hs] at hr
  rw [hA]
  constructor
  · intro h j hj hjq
    have hjq := of_decide_eq_true hjq
    have hall := (hr (n - 1) (by omega)).mp (h _ (Nat.mod_lt _ hn))
    -- j stands at some place of the way
    have : ∃ m, m < n - 1 ∧ (s + m) % n = j := by
      by_cases h1 : s ≤ j
      · refine ⟨j - s, ?_, ?_⟩
        · by_cases e : j - s = n - 1
          · exfalso
            have hj' : j = n - 1 := by omega
            have hs0 : s = 0 := by omega
            subst hs0; subst hj'
            exact hjq (by rw [show n - 1 + 1 = n by omega, Nat.mod_self])
          · omega
        · rw [show s + (j - s) = j by omega, Nat.mod_eq_of_lt (by omega)]
      · refine ⟨n + j - s, ?_, ?_⟩
        · by_cases e : j + 1 = s
          · exfalso
            exact hjq (by rw [e, Nat.mod_eq_of_lt hs])
          · omega
        · rw [show s + (n + j - s) = j + n by omega, Nat.add_mod_right, Nat.mod_eq_of_lt (by omega)]
    obtain ⟨m, hm, e⟩ := this
    have := hall m hm
    rw [e] at this
    exact (rt_mem inj hlt (by omega)).mp this
  · intro h i hi
    -- how far i is
    have : ∃ m, m < n ∧ (s + m) % n = i := by
      by_cases h1 : s ≤ i
      · exact ⟨i - s, by omega, by rw [show s + (i - s) = i by omega, Nat.mod_eq_of_lt hi]⟩
      · exact ⟨n + i - s, by omega, by rw [show s + (n + i - s) = i + n by omega, Nat.add_mod_right, Nat.mod_eq_of_lt hi]⟩
    obtain ⟨m, hm, e⟩ := this
    have r := hr m hm
    rw [e] at r
    refine r.mpr fun j hj => ?_
    have hx : (s + j) % n < n := Nat.mod_lt _ hn
    have hne : ((s + j) % n + 1) % n ≠ s := by
      rw [Nat.mod_add_mod]
      intro z
      by_cases a : s + j + 1 < n
      · rw [Nat.mod_eq_of_lt a] at z; omega
      · rw [Nat.mod_eq_sub_mod (by omega), Nat.mod_eq_of_lt (by omega)] at z; omega
    exact (rt_mem inj hlt hx).mpr (h _ (hq _ hx hne) (decide_eq_true hne))
end
end MW
end
section
set_option maxRecDepth 100000
/-! MX, part d: two parts that meet at one place. -/
namespace MW
theorem Rch.cut {S1 S2 : List Tie} {A B : Int → Prop} {z : Int} (h1 : ∀ t ∈ S1, A t.a ∧ A t.b) (h2 : ∀ t ∈ S2, B t.a ∧ B t.b) (hz : ∀ x, A x → B x → x = z) {x y : Int} (hx : A x) (hy : B y) :
    Rch (S1 ++ S2) [x] y ↔ Rch S1 [x] z ∧ Rch S2 [z] y := by
  constructor
  · intro h
    have key : ∀ w, Rch (S1 ++ S2) [x] w → (A w ∧ Rch S1 [x] w) ∨ (B w ∧ Rch S1 [x] z ∧ Rch S2 [z] w) := by
      intro w h
      induction h with
      | base h =>
        rw [List.mem_singleton.mp h]
        exact .inl ⟨hx, .base List.mem_cons_self⟩
      | @step t _ ht ih =>
        rcases List.mem_append.mp ht with q | q
        · obtain ⟨qa, qb⟩ := h1 t q
          rcases ih with ⟨_, r⟩ | ⟨b, r, _⟩
          · exact .inl ⟨qb, .step r q⟩
          · have e := hz _ qa b
            exact .inl ⟨qb, .step (by rw [e]; exact r) q⟩
        · obtain ⟨qa, qb⟩ := h2 t q
          rcases ih with ⟨a, r⟩ | ⟨_, r, r2⟩
          · have e := hz _ a qa
            exact .inr ⟨qb, by rw [← e]; exact r, .step (by rw [e]; exact .base List.mem_cons_self) q⟩
          · exact .inr ⟨qb, r, .step r2 q⟩
    rcases key y h with ⟨a, r⟩ | ⟨_, r⟩
    · have e := hz _ a hy
      rw [e] at r ⊢
      exact ⟨r, .base List.mem_cons_self⟩
    · exact r
  · rintro ⟨a, b⟩
    exact (a.mono (fun t ht => List.mem_append_left _ ht) fun _ h => h).trans (b.mono (fun t ht => List.mem_append_right _ ht) fun _ h => h)
theorem RX.cut {T1 T2 : List Tie} {A B : Int → Prop} {z : Int} (h1 : ∀ t ∈ T1, A t.a ∧ A t.b) (h2 : ∀ t ∈ T2, B t.a ∧ B t.b) (hz : ∀ x, A x → B x → x = z) {x y : Int} (hx : A x) (hy : B y) :
    RX (T1 ++ T2) [x] (fun R => R y) = RX T1 [x] (fun R => R z) * RX T2 [z] (fun R => R y) := by
  unfold RX
  refine Ex_split fun S1 S2 s1 s2 => ?_
  rw [← ind_and]
  exact ind_iff (Rch.cut (fun t ht => h1 t (s1.subset ht)) (fun t ht => h2 t (s2.subset ht)) hz hx hy)
end MW
end
section
set_option maxRecDepth 100000
/-! The mirrors and the walk of each def, printed by gen.py. -/
namespace K50
open PySem PySem.Spec L2 MW
def top (i : Nat) : Stmt := PySem.Challenge.pw_relywide_k50_one_way_nets_turned_round.main.body.getD i (.Pass ⟨0, 0, 0, 0⟩)
/-! is_integer -/
abbrev s_is_integer : Stmt := top 5
abbrev nm_is_integer : List Str := ["value"]
theorem sc_is_integer : FnScope ["value"] ["value"] (defScope s_is_integer) := ⟨rfl, rfl, rfl, by decide +kernel, rfl, by decide +kernel, by decide +kernel⟩
def b_is_integer : MS :=
  (sRet (mAndV (mUn (gIsi "int") (mVar 0)) (mNotV (mUn (gIsi "bool") (mVar 0)))))
def m_is_integer : List W → Sto → Option (W × Sto) := callP (runPure 1 1 b_is_integer)
theorem ok_is_integer {P : Program} {w : World} {K : PySem.W.Frag} {mg : Str → Option Value} {base : Heap} (D : DefT K mg "is_integer" s_is_integer) (z_isinstance : mg "isinstance" = none) (z_int : mg "int" = none) (z_bool : mg "bool" = none) : Has P w K mg base "is_integer" s_is_integer ["value"] 1 m_is_integer :=
  has_pure (N := nm_is_integer) (ps := ["value"]) (k := 0) (body := b_is_integer) D sc_is_integer (fun _ _ _ _ _ _ us hl => match us, hl with | [_], _ => rfl) (fun f cdv A outer s H E hr => (mss_one (ms_ret (me_and (me_isi rfl z_isinstance bb_isinstance rfl z_int bb_int ki_int (mv 0)) (me_one (me_not (me_isi rfl z_isinstance bb_isinstance rfl z_bool bb_bool ki_bool (mv 0))))))))
/-! is_within -/
abbrev s_is_within : Stmt := top 6
abbrev nm_is_within : List Str := ["value", "low", "high"]
theorem sc_is_within : FnScope ["value", "low", "high"] ["value", "low", "high"] (defScope s_is_within) := ⟨rfl, rfl, rfl, by decide +kernel, rfl, by decide +kernel, by decide +kernel⟩
def b_is_within : MS :=
  (sRet (mAndV (mCall m_is_integer (mCons (mVar 0) mNil)) (mChain (gInt iLe) (gInt iLe) (mVar 1) (mVar 0) (mVar 2))))
def m_is_within : List W → Sto → Option (W × Sto) := callP (runPure 3 3 b_is_within)
theorem ok_is_within {P : Program} {w : World} {K : PySem.W.Frag} {mg : Str → Option Value} {base : Heap} (D : DefT K mg "is_within" s_is_within) (h_is_integer : Has P w K mg base "is_integer" s_is_integer ["value"] 1 m_is_integer) : Has P w K mg base "is_within" s_is_within ["value", "low", "high"] 2 m_is_within :=
  has_pure (N := nm_is_within) (ps := ["value", "low", "high"]) (k := 1) (body := b_is_within) D sc_is_within (fun _ _ _ _ _ _ us hl => match us, hl with | [_, _, _], _ => rfl) (fun f cdv A outer s H E hr => (mss_one (ms_ret (me_and (mh_call h_is_integer (hr.mono (by decide)) rfl (ma_cons (mv 0) ma_nil)) (me_one (me_chain om_le om_le (mv 1) (mv 0) (mv 2)))))))
/-! is_index -/
abbrev s_is_index : Stmt := top 7
abbrev nm_is_index : List Str := ["value", "many"]
theorem sc_is_index : FnScope ["value", "many"] ["value", "many"] (defScope s_is_index) := ⟨rfl, rfl, rfl, by decide +kernel, rfl, by decide +kernel, by decide +kernel⟩
def b_is_index : MS :=
  (sRet (mAndV (mCall m_is_integer (mCons (mVar 0) mNil)) (mChain (gInt iLe) (gInt iLt) (mC (.int 0)) (mVar 0) (mVar 1))))
def m_is_index : List W → Sto → Option (W × Sto) := callP (runPure 2 2 b_is_index)
theorem ok_is_index {P : Program} {w : World} {K : PySem.W.Frag} {mg : Str → Option Value} {base : Heap} (D : DefT K mg "is_index" s_is_index) (h_is_integer : Has P w K mg base "is_integer" s_is_integer ["value"] 1 m_is_integer) : Has P w K mg base "is_index" s_is_index ["value", "many"] 2 m_is_index :=
  has_pure (N := nm_is_index) (ps := ["value", "many"]) (k := 1) (body := b_is_index) D sc_is_index (fun _ _ _ _ _ _ us hl => match us, hl with | [_, _], _ => rfl) (fun f cdv A outer s H E hr => (mss_one (ms_ret (me_and (mh_call h_is_integer (hr.mono (by decide)) rfl (ma_cons (mv 0) ma_nil)) (me_one (me_chain om_le om_lt me_int (mv 0) (mv 1)))))))
/-! is_tuple -/
abbrev s_is_tuple : Stmt := top 8
abbrev nm_is_tuple : List Str := ["value", "many"]
theorem sc_is_tuple : FnScope ["value", "many"] ["value", "many"] (defScope s_is_tuple) := ⟨rfl, rfl, rfl, by decide +kernel, rfl, by decide +kernel, by decide +kernel⟩
def b_is_tuple : MS :=
  (sRet (mAndV (mUn (gIsi "tuple") (mVar 0)) (mBin (gEq) (mCall gLen (mCons (mVar 0) mNil)) (mVar 1))))
def m_is_tuple : List W → Sto → Option (W × Sto) := callP (runPure 2 2 b_is_tuple)
theorem ok_is_tuple {P : Program} {w : World} {K : PySem.W.Frag} {mg : Str → Option Value} {base : Heap} (D : DefT K mg "is_tuple" s_is_tuple) (z_isinstance : mg "isinstance" = none) (z_tuple : mg "tuple" = none) (z_len : mg "len" = none) : Has P w K mg base "is_tuple" s_is_tuple ["value", "many"] 1 m_is_tuple :=
  has_pure (N := nm_is_tuple) (ps := ["value", "many"]) (k := 0) (body := b_is_tuple) D sc_is_tuple (fun _ _ _ _ _ _ us hl => match us, hl with | [_, _], _ => rfl) (fun f cdv A outer s H E hr => (mss_one (ms_ret (me_and (me_isi rfl z_isinstance bb_isinstance rfl z_tuple bb_tuple ki_tuple (mv 0)) (me_one (me_cmp (om_eq hr) (me_callB cm_len rfl z_len bb_len (ma_cons (mv 0) ma_nil)) (mv 1) (nomark _)))))))
/-! in_order -/
abbrev s_in_order : Stmt := top 9
abbrev nm_in_order : List Str := ["items", "at"]
theorem sc_in_order : FnScope ["items", "at"] ["items"] (defScope s_in_order) := ⟨rfl, rfl, rfl, by decide +kernel, rfl, by decide +kernel, by decide +kernel⟩
def b_in_order : MS :=
  (sRet (mCall (gBs fun is => is.all id) (mCons (mLc .pure (miRange2 (mCons (mC (.int 1)) (mCons (mCall gLen (mCons (mVar 0) mNil)) mNil))) (.nm 1) tYesM (mBin (gLeD) (mBin gIx (mVar 0) (mBin (gInt iSub) (mVar 1) (mC (.int 1)))) (mBin gIx (mVar 0) (mVar 1))) [1]) mNil)))
def m_in_order : List W → Sto → Option (W × Sto) := callP (runPure 2 1 b_in_order)
theorem ok_in_order {P : Program} {w : World} {K : PySem.W.Frag} {mg : Str → Option Value} {base : Heap} (D : DefT K mg "in_order" s_in_order) (z_len : mg "len" = none) (z_range : mg "range" = none) (z_all : mg "all" = none) : Has P w K mg base "in_order" s_in_order ["items"] 1 m_in_order :=
  has_pure (N := nm_in_order) (ps := ["items"]) (k := 0) (body := b_in_order) D sc_in_order (fun _ _ _ _ _ _ us hl => match us, hl with | [_], _ => rfl) (fun f cdv A outer s H E hr => (mss_one (ms_ret (me_callB (cm_all rfl) rfl z_all bb_all (ma_cons (me_lc .pure (.nm 1) (own := [("at", 1)]) rfl sc_in_order.nd  (mi_range2 rfl z_range (ma_cons me_int (ma_cons (me_callB cm_len rfl z_len bb_len (ma_cons (mv 0) ma_nil)) ma_nil))) (blkOk_by (N := nm_in_order) (sc := defScope s_in_order) (by decide +kernel)) (fun _ _ _ _ _ => (cv 1 sc_in_order.nd)) (fun _ _ _ _ _ => mts_nil) (fun _ _ _ _ _ => (me_cmp (om_leD hr) (me_ix (mv 0) (me_bin om_sub (mv 1) me_int) (fun _ _ => rfl)) (me_ix (mv 0) (mv 1) (fun _ _ => rfl)) (nomark _)))) ma_nil)))))
/-! common -/
abbrev s_common : Stmt := top 13
abbrev nm_common : List Str := ["one", "other"]
theorem sc_common : FnScope ["one", "other"] ["one", "other"] (defScope s_common) := ⟨rfl, rfl, rfl, by decide +kernel, rfl, by decide +kernel, by decide +kernel⟩
def b_common : MS :=
  (sSeq (sWhile (fuelAbs 1) (mTest (mBin (gNe) (mVar 1) (mC (.int 0)))) (sPar 0 1 (mCons (mVar 1) (mCons (mBin (gInt iMod) (mVar 0) (mVar 1)) mNil))))
  (sRet (mVar 0)))
def m_common : List W → Sto → Option (W × Sto) := callP (runPure 2 2 b_common)
theorem ok_common {P : Program} {w : World} {K : PySem.W.Frag} {mg : Str → Option Value} {base : Heap} (D : DefT K mg "common" s_common) : Has P w K mg base "common" s_common ["one", "other"] 1 m_common :=
  has_pure (N := nm_common) (ps := ["one", "other"]) (k := 0) (body := b_common) D sc_common (fun _ _ _ _ _ _ us hl => match us, hl with | [_, _], _ => rfl) (fun f cdv A outer s H E hr => (mss_cons (ms_while (fuelAbs 1) PassesOwn.never (mt_cmp (om_ne hr) (mv 1) me_int (nomark _)) (mss_one (ms_par (ps_par (i := 0) (j := 1) rfl sc_common.nd rfl rfl (by decide) rfl rfl (ma_cons (mv 1) (ma_cons (me_bin om_mod (mv 0) (mv 1)) ma_nil)) (by rfl)))))
      (mss_one (ms_ret (mv 0)))))
/-! reduced -/
abbrev s_reduced : Stmt := top 14
abbrev nm_reduced : List Str := ["top", "base", "divisor"]
theorem sc_reduced : FnScope ["top", "base", "divisor"] ["top", "base"] (defScope s_reduced) := ⟨rfl, rfl, rfl, by decide +kernel, rfl, by decide +kernel, by decide +kernel⟩
def b_reduced : MS :=
  (sSeq (sAsg (mBin (gMul .pure) (mCall m_common (mCons (mCall gAbs (mCons (mVar 0) mNil)) (mCons (mCall gAbs (mCons (mVar 1) mNil)) mNil))) (mIf (mTest (mBin (gInt iGt) (mVar 1) (mC (.int 0)))) (mC (.int 1)) (mUn gNeg (mC (.int 1))))) (mgName 2))
  (sRet (mTup (mCons (mBin (gInt iDiv) (mVar 0) (mVar 2)) (mCons (mBin (gInt iDiv) (mVar 1) (mVar 2)) mNil)))))
def m_reduced : List W → Sto → Option (W × Sto) := callP (runPure 3 2 b_reduced)
theorem ok_reduced {P : Program} {w : World} {K : PySem.W.Frag} {mg : Str → Option Value} {base : Heap} (D : DefT K mg "reduced" s_reduced) (h_common : Has P w K mg base "common" s_common ["one", "other"] 1 m_common) (z_abs : mg "abs" = none) : Has P w K mg base "reduced" s_reduced ["top", "base"] 2 m_reduced :=
  has_pure (N := nm_reduced) (ps := ["top", "base"]) (k := 1) (body := b_reduced) D sc_reduced (fun _ _ _ _ _ _ us hl => match us, hl with | [_, _], _ => rfl) (fun f cdv A outer s H E hr => (mss_cons (ms_set 2 sc_reduced.nd (me_bin (om_mul .pure) (mh_call h_common (hr.mono (by decide)) rfl (ma_cons (me_callB cm_abs rfl z_abs bb_abs (ma_cons (mv 0) ma_nil)) (ma_cons (me_callB cm_abs rfl z_abs bb_abs (ma_cons (mv 1) ma_nil)) ma_nil))) (me_if (mt_cmp om_gt (mv 1) me_int (nomark _)) me_int (me_neg me_int))))
      (mss_one (ms_ret (me_tup (ma_cons (me_bin om_div (mv 0) (mv 2)) (ma_cons (me_bin om_div (mv 1) (mv 2)) ma_nil)))))))
/-! is_fraction -/
abbrev s_is_fraction : Stmt := top 15
abbrev nm_is_fraction : List Str := ["value"]
theorem sc_is_fraction : FnScope ["value"] ["value"] (defScope s_is_fraction) := ⟨rfl, rfl, rfl, by decide +kernel, rfl, by decide +kernel, by decide +kernel⟩
def b_is_fraction : MS :=
  (sSeq (sIf (mOr (mNot (mTest (mCall m_is_tuple (mCons (mVar 0) (mCons (mC (.int 2)) mNil))))) (mOr (mNot (mTest (mCall m_is_integer (mCons (mBin gIx (mVar 0) (mC (.int 0))) mNil)))) (mNot (mTest (mCall m_is_integer (mCons (mBin gIx (mVar 0) (mC (.int 1))) mNil)))))) (sRet (mC (.bl false))) sNil)
  (sRet (mAndV (mBin (gInt iGt) (mBin gIx (mVar 0) (mC (.int 1))) (mC (.int 0))) (mBin (gEq) (mCall m_common (mCons (mCall gAbs (mCons (mBin gIx (mVar 0) (mC (.int 0))) mNil)) (mCons (mBin gIx (mVar 0) (mC (.int 1))) mNil))) (mC (.int 1))))))
def m_is_fraction : List W → Sto → Option (W × Sto) := callP (runPure 1 1 b_is_fraction)
theorem ok_is_fraction {P : Program} {w : World} {K : PySem.W.Frag} {mg : Str → Option Value} {base : Heap} (D : DefT K mg "is_fraction" s_is_fraction) (h_is_tuple : Has P w K mg base "is_tuple" s_is_tuple ["value", "many"] 1 m_is_tuple) (h_is_integer : Has P w K mg base "is_integer" s_is_integer ["value"] 1 m_is_integer) (h_common : Has P w K mg base "common" s_common ["one", "other"] 1 m_common) (z_abs : mg "abs" = none) : Has P w K mg base "is_fraction" s_is_fraction ["value"] 2 m_is_fraction :=
  has_pure (N := nm_is_fraction) (ps := ["value"]) (k := 1) (body := b_is_fraction) D sc_is_fraction (fun _ _ _ _ _ _ us hl => match us, hl with | [_], _ => rfl) (fun f cdv A outer s H E hr => (mss_cons (ms_if (PW.pt (mw_or (mt_not (mt_val (mh_call h_is_tuple (hr.mono (by decide)) rfl (ma_cons (mv 0) (ma_cons me_int ma_nil))))) (mw_or (mt_not (mt_val (mh_call h_is_integer (hr.mono (by decide)) rfl (ma_cons (me_ix (mv 0) me_int (fun _ _ => rfl)) ma_nil)))) (mw_or1 (mt_not (mt_val (mh_call h_is_integer (hr.mono (by decide)) rfl (ma_cons (me_ix (mv 0) me_int (fun _ _ => rfl)) ma_nil)))))))) (mss_one (ms_ret me_bl)) mss_nil)
      (mss_one (ms_ret (me_and (me_cmp om_gt (me_ix (mv 0) me_int (fun _ _ => rfl)) me_int (nomark _)) (me_one (me_cmp (om_eq hr) (mh_call h_common (hr.mono (by decide)) rfl (ma_cons (me_callB cm_abs rfl z_abs bb_abs (ma_cons (me_ix (mv 0) me_int (fun _ _ => rfl)) ma_nil)) (ma_cons (me_ix (mv 0) me_int (fun _ _ => rfl)) ma_nil))) me_int (nomark _))))))))
/-! is_chance -/
abbrev s_is_chance : Stmt := top 16
abbrev nm_is_chance : List Str := ["value"]
theorem sc_is_chance : FnScope ["value"] ["value"] (defScope s_is_chance) := ⟨rfl, rfl, rfl, by decide +kernel, rfl, by decide +kernel, by decide +kernel⟩
def b_is_chance : MS :=
  (sRet (mAndV (mCall m_is_fraction (mCons (mVar 0) mNil)) (mChain (gInt iLe) (gInt iLe) (mC (.int 0)) (mBin gIx (mVar 0) (mC (.int 0))) (mBin gIx (mVar 0) (mC (.int 1))))))
def m_is_chance : List W → Sto → Option (W × Sto) := callP (runPure 1 1 b_is_chance)
theorem ok_is_chance {P : Program} {w : World} {K : PySem.W.Frag} {mg : Str → Option Value} {base : Heap} (D : DefT K mg "is_chance" s_is_chance) (h_is_fraction : Has P w K mg base "is_fraction" s_is_fraction ["value"] 2 m_is_fraction) : Has P w K mg base "is_chance" s_is_chance ["value"] 3 m_is_chance :=
  has_pure (N := nm_is_chance) (ps := ["value"]) (k := 2) (body := b_is_chance) D sc_is_chance (fun _ _ _ _ _ _ us hl => match us, hl with | [_], _ => rfl) (fun f cdv A outer s H E hr => (mss_one (ms_ret (me_and (mh_call h_is_fraction (hr.mono (by decide)) rfl (ma_cons (mv 0) ma_nil)) (me_one (me_chain om_le om_le me_int (me_ix (mv 0) me_int (fun _ _ => rfl)) (me_ix (mv 0) me_int (fun _ _ => rfl))))))))
/-! add -/
abbrev s_add : Stmt := top 17
abbrev nm_add : List Str := ["one", "other"]
theorem sc_add : FnScope ["one", "other"] ["one", "other"] (defScope s_add) := ⟨rfl, rfl, rfl, by decide +kernel, rfl, by decide +kernel, by decide +kernel⟩
def b_add : MS :=
  (sRet (mCall m_reduced (mCons (mBin (gAdd .pure) (mBin (gMul .pure) (mBin gIx (mVar 0) (mC (.int 0))) (mBin gIx (mVar 1) (mC (.int 1)))) (mBin (gMul .pure) (mBin gIx (mVar 1) (mC (.int 0))) (mBin gIx (mVar 0) (mC (.int 1))))) (mCons (mBin (gMul .pure) (mBin gIx (mVar 0) (mC (.int 1))) (mBin gIx (mVar 1) (mC (.int 1)))) mNil))))
def m_add : List W → Sto → Option (W × Sto) := callP (runPure 2 2 b_add)
theorem ok_add {P : Program} {w : World} {K : PySem.W.Frag} {mg : Str → Option Value} {base : Heap} (D : DefT K mg "add" s_add) (h_reduced : Has P w K mg base "reduced" s_reduced ["top", "base"] 2 m_reduced) : Has P w K mg base "add" s_add ["one", "other"] 3 m_add :=
  has_pure (N := nm_add) (ps := ["one", "other"]) (k := 2) (body := b_add) D sc_add (fun _ _ _ _ _ _ us hl => match us, hl with | [_, _], _ => rfl) (fun f cdv A outer s H E hr => (mss_one (ms_ret (mh_call h_reduced (hr.mono (by decide)) rfl (ma_cons (me_bin (om_add .pure) (me_bin (om_mul .pure) (me_ix (mv 0) me_int (fun _ _ => rfl)) (me_ix (mv 1) me_int (fun _ _ => rfl))) (me_bin (om_mul .pure) (me_ix (mv 1) me_int (fun _ _ => rfl)) (me_ix (mv 0) me_int (fun _ _ => rfl)))) (ma_cons (me_bin (om_mul .pure) (me_ix (mv 0) me_int (fun _ _ => rfl)) (me_ix (mv 1) me_int (fun _ _ => rfl))) ma_nil))))))
/-! multiply -/
abbrev s_multiply : Stmt := top 18
abbrev nm_multiply : List Str := ["one", "other"]
theorem sc_multiply : FnScope ["one", "other"] ["one", "other"] (defScope s_multiply) := ⟨rfl, rfl, rfl, by decide +kernel, rfl, by decide +kernel, by decide +kernel⟩
def b_multiply : MS :=
  (sRet (mCall m_reduced (mCons (mBin (gMul .pure) (mBin gIx (mVar 0) (mC (.int 0))) (mBin gIx (mVar 1) (mC (.int 0)))) (mCons (mBin (gMul .pure) (mBin gIx (mVar 0) (mC (.int 1))) (mBin gIx (mVar 1) (mC (.int 1)))) mNil))))
def m_multiply : List W → Sto → Option (W × Sto) := callP (runPure 2 2 b_multiply)
theorem ok_multiply {P : Program} {w : World} {K : PySem.W.Frag} {mg : Str → Option Value} {base : Heap} (D : DefT K mg "multiply" s_multiply) (h_reduced : Has P w K mg base "reduced" s_reduced ["top", "base"] 2 m_reduced) : Has P w K mg base "multiply" s_multiply ["one", "other"] 3 m_multiply :=
  has_pure (N := nm_multiply) (ps := ["one", "other"]) (k := 2) (body := b_multiply) D sc_multiply (fun _ _ _ _ _ _ us hl => match us, hl with | [_, _], _ => rfl) (fun f cdv A outer s H E hr => (mss_one (ms_ret (mh_call h_reduced (hr.mono (by decide)) rfl (ma_cons (me_bin (om_mul .pure) (me_ix (mv 0) me_int (fun _ _ => rfl)) (me_ix (mv 1) me_int (fun _ _ => rfl))) (ma_cons (me_bin (om_mul .pure) (me_ix (mv 0) me_int (fun _ _ => rfl)) (me_ix (mv 1) me_int (fun _ _ => rfl))) ma_nil))))))
/-! rest -/
abbrev s_rest : Stmt := top 19
abbrev nm_rest : List Str := ["chance"]
theorem sc_rest : FnScope ["chance"] ["chance"] (defScope s_rest) := ⟨rfl, rfl, rfl, by decide +kernel, rfl, by decide +kernel, by decide +kernel⟩
def b_rest : MS :=
  (sRet (mTup (mCons (mBin (gInt iSub) (mBin gIx (mVar 0) (mC (.int 1))) (mBin gIx (mVar 0) (mC (.int 0)))) (mCons (mBin gIx (mVar 0) (mC (.int 1))) mNil))))
def m_rest : List W → Sto → Option (W × Sto) := callP (runPure 1 1 b_rest)
theorem ok_rest {P : Program} {w : World} {K : PySem.W.Frag} {mg : Str → Option Value} {base : Heap} (D : DefT K mg "rest" s_rest) : Has P w K mg base "rest" s_rest ["chance"] 1 m_rest :=
  has_pure (N := nm_rest) (ps := ["chance"]) (k := 0) (body := b_rest) D sc_rest (fun _ _ _ _ _ _ us hl => match us, hl with | [_], _ => rfl) (fun f cdv A outer s H E hr => (mss_one (ms_ret (me_tup (ma_cons (me_bin om_sub (me_ix (mv 0) me_int (fun _ _ => rfl)) (me_ix (mv 0) me_int (fun _ _ => rfl))) (ma_cons (me_ix (mv 0) me_int (fun _ _ => rfl)) ma_nil))))))
/-! sum_of -/
abbrev s_sum_of : Stmt := top 20
abbrev nm_sum_of : List Str := ["fractions", "found", "fraction"]
theorem sc_sum_of : FnScope ["fractions", "found", "fraction"] ["fractions"] (defScope s_sum_of) := ⟨rfl, rfl, rfl, by decide +kernel, rfl, by decide +kernel, by decide +kernel⟩
def b_sum_of : MS :=
  (sSeq (sAsg (mC (.tup [(.int 0), (.int 1)])) (mgName 1))
  (sSeq (sFor (miSeq (mVar 0)) (mgName 2) (sAsg (mCall m_add (mCons (mVar 1) (mCons (mVar 2) mNil))) (mgName 1)))
  (sRet (mVar 1))))
def m_sum_of : List W → Sto → Option (W × Sto) := callP (runPure 3 1 b_sum_of)
theorem ok_sum_of {P : Program} {w : World} {K : PySem.W.Frag} {mg : Str → Option Value} {base : Heap} (D : DefT K mg "sum_of" s_sum_of) (h_add : Has P w K mg base "add" s_add ["one", "other"] 3 m_add) (g_ZERO : Gc K mg "ZERO" (.tup [(.int 0), (.int 1)])) : Has P w K mg base "sum_of" s_sum_of ["fractions"] 4 m_sum_of :=
  has_pure (N := nm_sum_of) (ps := ["fractions"]) (k := 3) (body := b_sum_of) D sc_sum_of (fun _ _ _ _ _ _ us hl => match us, hl with | [_], _ => rfl) (fun f cdv A outer s H E hr => (mss_cons (ms_set 1 sc_sum_of.nd (me_gc rfl g_ZERO))
      (mss_cons (ms_for PassesOwn.never rfl (mi_seq (mv 0)) (gv 2 sc_sum_of.nd) (mss_one (ms_set 1 sc_sum_of.nd (mh_call h_add (hr.mono (by decide)) rfl (ma_cons (mv 1) (ma_cons (mv 2) ma_nil))))))
      (mss_one (ms_ret (mv 1))))))
/-! check_place -/
abbrev s_check_place : Stmt := top 23
abbrev nm_check_place : List Str := ["net", "place"]
theorem sc_check_place : FnScope ["net", "place"] ["net", "place"] (defScope s_check_place) := ⟨rfl, rfl, rfl, by decide +kernel, rfl, by decide +kernel, by decide +kernel⟩
def b_check_place : MS :=
  (sIf (mNot (mTest (mCall m_is_index (mCons (mVar 1) (mCons (mBin gIx (mVar 0) (mC (.int 0))) mNil))))) sNo sNil)
def m_check_place : List W → Sto → Option (W × Sto) := callP (runPure 2 2 b_check_place)
theorem ok_check_place {P : Program} {w : World} {K : PySem.W.Frag} {mg : Str → Option Value} {base : Heap} (D : DefT K mg "check_place" s_check_place) (h_is_index : Has P w K mg base "is_index" s_is_index ["value", "many"] 2 m_is_index) : Has P w K mg base "check_place" s_check_place ["net", "place"] 3 m_check_place :=
  has_pure (N := nm_check_place) (ps := ["net", "place"]) (k := 2) (body := b_check_place) D sc_check_place (fun _ _ _ _ _ _ us hl => match us, hl with | [_, _], _ => rfl) (fun f cdv A outer s H E hr => (mss_one (ms_if (mt_not (mt_val (mh_call h_is_index (hr.mono (by decide)) rfl (ma_cons (mv 1) (ma_cons (me_ix (mv 0) me_int (fun _ _ => rfl)) ma_nil))))) (mss_one ms_never) mss_nil)))
/-! is_one_way_tie -/
abbrev s_is_one_way_tie : Stmt := top 26
abbrev nm_is_one_way_tie : List Str := ["many", "value"]
theorem sc_is_one_way_tie : FnScope ["many", "value"] ["many", "value"] (defScope s_is_one_way_tie) := ⟨rfl, rfl, rfl, by decide +kernel, rfl, by decide +kernel, by decide +kernel⟩
def b_is_one_way_tie : MS :=
  (sSeq (sIf (mOr (mNot (mTest (mCall m_is_tuple (mCons (mVar 1) (mCons (mC (.int 3)) mNil))))) (mOr (mNot (mTest (mCall m_is_index (mCons (mBin gIx (mVar 1) (mC (.int 0))) (mCons (mVar 0) mNil))))) (mNot (mTest (mCall m_is_index (mCons (mBin gIx (mVar 1) (mC (.int 1))) (mCons (mVar 0) mNil))))))) (sRet (mC (.bl false))) sNil)
  (sRet (mAndV (mBin (gNe) (mBin gIx (mVar 1) (mC (.int 0))) (mBin gIx (mVar 1) (mC (.int 1)))) (mCall m_is_chance (mCons (mBin gIx (mVar 1) (mC (.int 2))) mNil)))))
def m_is_one_way_tie : List W → Sto → Option (W × Sto) := callP (runPure 2 2 b_is_one_way_tie)
theorem ok_is_one_way_tie {P : Program} {w : World} {K : PySem.W.Frag} {mg : Str → Option Value} {base : Heap} (D : DefT K mg "is_one_way_tie" s_is_one_way_tie) (h_is_tuple : Has P w K mg base "is_tuple" s_is_tuple ["value", "many"] 1 m_is_tuple) (h_is_index : Has P w K mg base "is_index" s_is_index ["value", "many"] 2 m_is_index) (h_is_chance : Has P w K mg base "is_chance" s_is_chance ["value"] 3 m_is_chance) : Has P w K mg base "is_one_way_tie" s_is_one_way_tie ["many", "value"] 4 m_is_one_way_tie :=
  has_pure (N := nm_is_one_way_tie) (ps := ["many", "value"]) (k := 3) (body := b_is_one_way_tie) D sc_is_one_way_tie (fun _ _ _ _ _ _ us hl => match us, hl with | [_, _], _ => rfl) (fun f cdv A outer s H E hr => (mss_cons (ms_if (PW.pt (mw_or (mt_not (mt_val (mh_call h_is_tuple (hr.mono (by decide)) rfl (ma_cons (mv 1) (ma_cons me_int ma_nil))))) (mw_or (mt_not (mt_val (mh_call h_is_index (hr.mono (by decide)) rfl (ma_cons (me_ix (mv 1) me_int (fun _ _ => rfl)) (ma_cons (mv 0) ma_nil))))) (mw_or1 (mt_not (mt_val (mh_call h_is_index (hr.mono (by decide)) rfl (ma_cons (me_ix (mv 1) me_int (fun _ _ => rfl)) (ma_cons (mv 0) ma_nil))))))))) (mss_one (ms_ret me_bl)) mss_nil)
      (mss_one (ms_ret (me_and (me_cmp (om_ne hr) (me_ix (mv 1) me_int (fun _ _ => rfl)) (me_ix (mv 1) me_int (fun _ _ => rfl)) (nomark _)) (me_one (mh_call h_is_chance (hr.mono (by decide)) rfl (ma_cons (me_ix (mv 1) me_int (fun _ _ => rfl)) ma_nil))))))))
/-! is_one_way -/
abbrev s_is_one_way : Stmt := top 27
abbrev nm_is_one_way : List Str := ["value", "many", "ties", "tie"]
theorem sc_is_one_way : FnScope ["value", "many", "ties", "tie"] ["value"] (defScope s_is_one_way) := ⟨rfl, rfl, rfl, by decide +kernel, rfl, by decide +kernel, by decide +kernel⟩
def b_is_one_way : MS :=
  (sSeq (sIf (mOr (mNot (mTest (mCall m_is_tuple (mCons (mVar 0) (mCons (mC (.int 2)) mNil))))) (mNot (mTest (mCall m_is_within (mCons (mBin gIx (mVar 0) (mC (.int 0))) (mCons (mC (.int 1)) (mCons (mC (.int 10)) mNil))))))) (sRet (mC (.bl false))) sNil)
  (sSeq (sAsg (mVar 0) (mgTup 2 (mgCons (mgName 1) (mgCons (mgName 2) mgNil))))
  (sSeq (sIf (mOr (mNot (mTest (mUn (gIsi "tuple") (mVar 2)))) (mTest (mBin (gInt iGt) (mCall gLen (mCons (mVar 2) mNil)) (mC (.int 12))))) (sRet (mC (.bl false))) sNil)
  (sRet (mAndV (mCall (gBs fun is => is.all id) (mCons (mLc .pure (miSeq (mVar 2)) (.nm 3) tYesM (mCall m_is_one_way_tie (mCons (mVar 1) (mCons (mVar 3) mNil))) [3]) mNil)) (mCall m_in_order (mCons (mVar 2) mNil)))))))
def m_is_one_way : List W → Sto → Option (W × Sto) := callP (runPure 4 1 b_is_one_way)
theorem ok_is_one_way {P : Program} {w : World} {K : PySem.W.Frag} {mg : Str → Option Value} {base : Heap} (D : DefT K mg "is_one_way" s_is_one_way) (h_is_tuple : Has P w K mg base "is_tuple" s_is_tuple ["value", "many"] 1 m_is_tuple) (h_is_within : Has P w K mg base "is_within" s_is_within ["value", "low", "high"] 2 m_is_within) (h_is_one_way_tie : Has P w K mg base "is_one_way_tie" s_is_one_way_tie ["many", "value"] 4 m_is_one_way_tie) (h_in_order : Has P w K mg base "in_order" s_in_order ["items"] 1 m_in_order) (z_isinstance : mg "isinstance" = none) (z_tuple : mg "tuple" = none) (z_len : mg "len" = none) (z_all : mg "all" = none) (g_MOST_PLACES : Gc K mg "MOST_PLACES" (.int 10)) (g_MOST_ONE_WAY_TIES : Gc K mg "MOST_ONE_WAY_TIES" (.int 12)) : Has P w K mg base "is_one_way" s_is_one_way ["value"] 5 m_is_one_way :=
  has_pure (N := nm_is_one_way) (ps := ["value"]) (k := 4) (body := b_is_one_way) D sc_is_one_way (fun _ _ _ _ _ _ us hl => match us, hl with | [_], _ => rfl) (fun f cdv A outer s H E hr => (mss_cons (ms_if (PW.pt (mw_or (mt_not (mt_val (mh_call h_is_tuple (hr.mono (by decide)) rfl (ma_cons (mv 0) (ma_cons me_int ma_nil))))) (mw_or1 (mt_not (mt_val (mh_call h_is_within (hr.mono (by decide)) rfl (ma_cons (me_ix (mv 0) me_int (fun _ _ => rfl)) (ma_cons me_int (ma_cons (me_gc rfl g_MOST_PLACES) ma_nil))))))))) (mss_one (ms_ret me_bl)) mss_nil)
      (mss_cons (ms_asg (mv 0) (mg_tup rfl (mgs_cons (gv 1 sc_is_one_way.nd) (mgs_cons (gv 2 sc_is_one_way.nd) mgs_nil))))
      (mss_cons (ms_if (PW.pt (mw_or (mt_not (mt_val (me_isi rfl z_isinstance bb_isinstance rfl z_tuple bb_tuple ki_tuple (mv 2)))) (mw_or1 (mt_cmp om_gt (me_callB cm_len rfl z_len bb_len (ma_cons (mv 2) ma_nil)) (me_gc rfl g_MOST_ONE_WAY_TIES) (nomark _))))) (mss_one (ms_ret me_bl)) mss_nil)
      (mss_one (ms_ret (me_and (me_callB (cm_all rfl) rfl z_all bb_all (ma_cons (me_lc .pure (.nm 3) (own := [("tie", 3)]) rfl sc_is_one_way.nd  (mi_seq (mv 2)) (blkOk_by (N := nm_is_one_way) (sc := defScope s_is_one_way) (by decide +kernel)) (fun _ _ _ _ _ => (cv 3 sc_is_one_way.nd)) (fun _ _ _ _ _ => mts_nil) (fun _ _ _ _ _ => (mh_call h_is_one_way_tie (hr.mono (by decide)) rfl (ma_cons (mv 1) (ma_cons (mv 3) ma_nil))))) ma_nil)) (me_one (mh_call h_in_order (hr.mono (by decide)) rfl (ma_cons (mv 2) ma_nil))))))))))
/-! check_one_way -/
abbrev s_check_one_way : Stmt := top 28
abbrev nm_check_one_way : List Str := ["net"]
theorem sc_check_one_way : FnScope ["net"] ["net"] (defScope s_check_one_way) := ⟨rfl, rfl, rfl, by decide +kernel, rfl, by decide +kernel, by decide +kernel⟩
def b_check_one_way : MS :=
  (sIf (mNot (mTest (mCall m_is_one_way (mCons (mVar 0) mNil)))) sNo sNil)
def m_check_one_way : List W → Sto → Option (W × Sto) := callP (runPure 1 1 b_check_one_way)
theorem ok_check_one_way {P : Program} {w : World} {K : PySem.W.Frag} {mg : Str → Option Value} {base : Heap} (D : DefT K mg "check_one_way" s_check_one_way) (h_is_one_way : Has P w K mg base "is_one_way" s_is_one_way ["value"] 5 m_is_one_way) : Has P w K mg base "check_one_way" s_check_one_way ["net"] 6 m_check_one_way :=
  has_pure (N := nm_check_one_way) (ps := ["net"]) (k := 5) (body := b_check_one_way) D sc_check_one_way (fun _ _ _ _ _ _ us hl => match us, hl with | [_], _ => rfl) (fun f cdv A outer s H E hr => (mss_one (ms_if (mt_not (mt_val (mh_call h_is_one_way (hr.mono (by decide)) rfl (ma_cons (mv 0) ma_nil)))) (mss_one ms_never) mss_nil)))
/-! without_one -/
abbrev s_without_one : Stmt := top 30
abbrev nm_without_one : List Str := ["ties", "tie", "at"]
theorem sc_without_one : FnScope ["ties", "tie", "at"] ["ties", "tie"] (defScope s_without_one) := ⟨rfl, rfl, rfl, by decide +kernel, rfl, by decide +kernel, by decide +kernel⟩
def b_without_one : MS :=
  (sSeq (sAsg (mMeth "list" gIndexL (mVar 0) (mCons (mVar 1) mNil)) (mgName 2))
  (sRet (mBin (gAdd .pure) (mSl .pure (mVar 0) mNo (mSo (mVar 2))) (mSl .pure (mVar 0) (mSo (mBin (gAdd .pure) (mVar 2) (mC (.int 1)))) mNo))))
def m_without_one : List W → Sto → Option (W × Sto) := callP (runPure 3 2 b_without_one)
theorem ok_without_one {P : Program} {w : World} {K : PySem.W.Frag} {mg : Str → Option Value} {base : Heap} (D : DefT K mg "without_one" s_without_one) : Has P w K mg base "without_one" s_without_one ["ties", "tie"] 1 m_without_one :=
  has_pure (N := nm_without_one) (ps := ["ties", "tie"]) (k := 0) (body := b_without_one) D sc_without_one (fun _ _ _ _ _ _ us hl => match us, hl with | [_, _], _ => rfl) (fun f cdv A outer s H E hr => (mss_cons (ms_set 2 sc_without_one.nd (me_meth PySem.F.plainAttrs_list PySem.F.slot_list_index PySem.F.type_list_index (mm_index hr) (mv 0) (ma_cons (mv 1) ma_nil)))
      (mss_one (ms_ret (me_bin (om_add .pure) (me_sl .pure (mv 0) mo_no (mo_so (mv 2))) (me_sl .pure (mv 0) (mo_so (me_bin (om_add .pure) (mv 2) me_int)) mo_no))))))
/-! reached_sets -/
abbrev s_reached_sets : Stmt := top 29
abbrev nm_reached_sets : List Str := ["net", "one", "found", "waiting", "on", "places", "left", "weight", "others", "a", "b", "chance", "tie"]
theorem sc_reached_sets : FnScope ["net", "one", "found", "waiting", "on", "places", "left", "weight", "others", "a", "b", "chance", "tie"] ["net", "one"] (defScope s_reached_sets) := ⟨rfl, rfl, rfl, by decide +kernel, rfl, by decide +kernel, by decide +kernel⟩
def b_reached_sets : MS :=
  (sSeq (sPar 2 3 (mCons (mList .own mNil) (mCons (mList .own (mCons (mTup (mCons (mList .pure (mCons (mVar 1) mNil)) (mCons (mCall (gListOf .pure) (mCons (mBin gIx (mVar 0) (mC (.int 1))) mNil)) (mCons (mC (.tup [(.int 1), (.int 1)])) mNil)))) mNil)) mNil)))
  (sSeq (sWhile (fuelN 20000) (mTest (mBin (gNe) (mVar 3) (mList .pure mNil))) (sSeq (sAsg (mMeth "list" gPop (mVar 3) mNil) (mgTup 3 (mgCons (mgName 5) (mgCons (mgName 6) (mgCons (mgName 7) mgNil)))))
  (sSeq (sAsg (mLc .pure (miSeq (mVar 6)) (.nm 12) (mAnd (mTest (mBin (gIn false) (mBin gIx (mVar 12) (mC (.int 0))) (mVar 5))) (mTest (mBin (gIn true) (mBin gIx (mVar 12) (mC (.int 1))) (mVar 5)))) (mVar 12) [12]) (mgName 4))
  (sSeq (sIf (mAnd (mTest (mBin (gNe) (mVar 7) (mC (.tup [(.int 0), (.int 1)])))) (mTest (mBin (gEq) (mVar 4) (mList .pure mNil)))) (sExpr (mMeth "list" gAppend (mVar 2) (mCons (mTup (mCons (mVar 5) (mCons (mVar 7) mNil))) mNil))) sNil)
  (sIf (mAnd (mTest (mBin (gNe) (mVar 7) (mC (.tup [(.int 0), (.int 1)])))) (mTest (mBin (gNe) (mVar 4) (mList .pure mNil)))) (sSeq (sAsg (mBin gIx (mVar 4) (mC (.int 0))) (mgTup 3 (mgCons (mgName 9) (mgCons (mgName 10) (mgCons (mgName 11) mgNil)))))
  (sSeq (sAsg (mCall m_without_one (mCons (mVar 6) (mCons (mBin gIx (mVar 4) (mC (.int 0))) mNil))) (mgName 8))
  (sSeq (sExpr (mMeth "list" gAppend (mVar 3) (mCons (mTup (mCons (mList .pure (mStarC (mVar 5) (mCons (mVar 10) mNil))) (mCons (mVar 8) (mCons (mCall m_multiply (mCons (mVar 7) (mCons (mVar 11) mNil))) mNil)))) mNil)))
  (sExpr (mMeth "list" gAppend (mVar 3) (mCons (mTup (mCons (mVar 5) (mCons (mVar 8) (mCons (mCall m_multiply (mCons (mVar 7) (mCons (mCall m_rest (mCons (mVar 11) mNil)) mNil))) mNil)))) mNil)))))) sNil)))))
  (sRet (mVar 2))))
def m_reached_sets : List W → Sto → Option (W × Sto) := callP (runPure 13 2 b_reached_sets)
theorem ok_reached_sets {P : Program} {w : World} {K : PySem.W.Frag} {mg : Str → Option Value} {base : Heap} (D : DefT K mg "reached_sets" s_reached_sets) (h_without_one : Has P w K mg base "without_one" s_without_one ["ties", "tie"] 1 m_without_one) (h_multiply : Has P w K mg base "multiply" s_multiply ["one", "other"] 3 m_multiply) (h_rest : Has P w K mg base "rest" s_rest ["chance"] 1 m_rest) (z_list : mg "list" = none) (g_ONE : Gc K mg "ONE" (.tup [(.int 1), (.int 1)])) (g_ZERO : Gc K mg "ZERO" (.tup [(.int 0), (.int 1)])) : Has P w K mg base "reached_sets" s_reached_sets ["net", "one"] 4 m_reached_sets :=
  has_pure (N := nm_reached_sets) (ps := ["net", "one"]) (k := 3) (body := b_reached_sets) D sc_reached_sets (fun _ _ _ _ _ _ us hl => match us, hl with | [_, _], _ => rfl) (fun f cdv A outer s H E hr => (mss_cons (ms_par (ps_par (i := 2) (j := 3) rfl sc_reached_sets.nd rfl rfl (by decide) rfl rfl (ma_cons (me_list .own ma_nil) (ma_cons (me_list .own (ma_cons (me_tup (ma_cons (me_list .pure (ma_cons (mv 1) ma_nil)) (ma_cons (me_callTy (cm_list .pure) rfl z_list bb_list (ma_cons (me_ix (mv 0) me_int (fun _ _ => rfl)) ma_nil)) (ma_cons (me_gc rfl g_ONE) ma_nil)))) ma_nil)) ma_nil)) (by rfl)))
      (mss_cons (ms_while (fuelN 20000) PassesOwn.never (mt_cmp (om_ne hr) (mv 3) (me_list .pure ma_nil) (nomark _)) (mss_cons (ms_asg (me_meth0 PySem.F.plainAttrs_list PySem.F.slot_list_pop PySem.F.type_list_pop mm_pop (mv 3)) (mg_tup rfl (mgs_cons (gv 5 sc_reached_sets.nd) (mgs_cons (gv 6 sc_reached_sets.nd) (mgs_cons (gv 7 sc_reached_sets.nd) mgs_nil)))))
      (mss_cons (ms_setLc .pure (.nm 12) (own := [("tie", 12)]) rfl sc_reached_sets.nd (i := 4) rfl rfl (sw_true rfl rfl rfl (by decide +kernel)) (mi_seq (mv 6)) (blkOk_by (N := nm_reached_sets) (sc := defScope s_reached_sets) (by decide +kernel)) (fun _ _ _ _ _ => (cv 12 sc_reached_sets.nd)) (fun _ _ _ _ _ => (pts_one (PW.pt (mw_and (mt_cmp om_in (me_ix (mv 12) me_int (fun _ _ => rfl)) (mv 5) (by rfl)) (mw_and1 (mt_cmp om_notIn (me_ix (mv 12) me_int (fun _ _ => rfl)) (mv 5) (by rfl))))))) (fun _ _ _ _ _ => (mv 12)))
      (mss_cons (ms_if (PW.pt (mw_and (mt_cmp (om_ne hr) (mv 7) (me_gc rfl g_ZERO) (nomark _)) (mw_and1 (mt_cmp (om_eq hr) (mv 4) (me_list .pure ma_nil) (nomark _))))) (mss_one (ms_expr (me_meth PySem.F.plainAttrs_list PySem.F.slot_list_append PySem.F.type_list_append mm_append (mv 2) (ma_cons (me_tup (ma_cons (mv 5) (ma_cons (mv 7) ma_nil))) ma_nil)))) mss_nil)
      (mss_one (ms_if (PW.pt (mw_and (mt_cmp (om_ne hr) (mv 7) (me_gc rfl g_ZERO) (nomark _)) (mw_and1 (mt_cmp (om_ne hr) (mv 4) (me_list .pure ma_nil) (nomark _))))) (mss_cons (ms_asg (me_ix (mv 4) me_int (fun _ _ => rfl)) (mg_tup rfl (mgs_cons (gv 9 sc_reached_sets.nd) (mgs_cons (gv 10 sc_reached_sets.nd) (mgs_cons (gv 11 sc_reached_sets.nd) mgs_nil)))))
      (mss_cons (ms_set 8 sc_reached_sets.nd (mh_call h_without_one (hr.mono (by decide)) rfl (ma_cons (mv 6) (ma_cons (me_ix (mv 4) me_int (fun _ _ => rfl)) ma_nil))))
      (mss_cons (ms_expr (me_meth PySem.F.plainAttrs_list PySem.F.slot_list_append PySem.F.type_list_append mm_append (mv 3) (ma_cons (me_tup (ma_cons (me_list .pure (ma_star (mv 5) (ma_cons (mv 10) ma_nil))) (ma_cons (mv 8) (ma_cons (mh_call h_multiply (hr.mono (by decide)) rfl (ma_cons (mv 7) (ma_cons (mv 11) ma_nil))) ma_nil)))) ma_nil)))
      (mss_one (ms_expr (me_meth PySem.F.plainAttrs_list PySem.F.slot_list_append PySem.F.type_list_append mm_append (mv 3) (ma_cons (me_tup (ma_cons (mv 5) (ma_cons (mv 8) (ma_cons (mh_call h_multiply (hr.mono (by decide)) rfl (ma_cons (mv 7) (ma_cons (mh_call h_rest (hr.mono (by decide)) rfl (ma_cons (mv 11) ma_nil)) ma_nil))) ma_nil)))) ma_nil))))))) mss_nil))))))
      (mss_one (ms_ret (mv 2))))))
/-! reach_of -/
abbrev s_reach_of : Stmt := top 31
abbrev nm_reach_of : List Str := ["net", "one", "other", "places", "chance"]
theorem sc_reach_of : FnScope ["net", "one", "other", "places", "chance"] ["net", "one", "other"] (defScope s_reach_of) := ⟨rfl, rfl, rfl, by decide +kernel, rfl, by decide +kernel, by decide +kernel⟩
def b_reach_of : MS :=
  (sRet (mCall m_sum_of (mCons (mLc .pure (miSeq (mCall m_reached_sets (mCons (mVar 0) (mCons (mVar 1) mNil)))) (.tp [3, 4]) (mTest (mBin (gIn false) (mVar 2) (mVar 3))) (mVar 4) [3, 4]) mNil)))
def m_reach_of : List W → Sto → Option (W × Sto) := callP (runPure 5 3 b_reach_of)
theorem ok_reach_of {P : Program} {w : World} {K : PySem.W.Frag} {mg : Str → Option Value} {base : Heap} (D : DefT K mg "reach_of" s_reach_of) (h_sum_of : Has P w K mg base "sum_of" s_sum_of ["fractions"] 4 m_sum_of) (h_reached_sets : Has P w K mg base "reached_sets" s_reached_sets ["net", "one"] 4 m_reached_sets) : Has P w K mg base "reach_of" s_reach_of ["net", "one", "other"] 5 m_reach_of :=
  has_pure (N := nm_reach_of) (ps := ["net", "one", "other"]) (k := 4) (body := b_reach_of) D sc_reach_of (fun _ _ _ _ _ _ us hl => match us, hl with | [_, _, _], _ => rfl) (fun f cdv A outer s H E hr => (mss_one (ms_ret (mh_call h_sum_of (hr.mono (by decide)) rfl (ma_cons (me_lc .pure (.tp [3, 4]) (own := [("places", 3), ("chance", 4)]) rfl sc_reach_of.nd  (mi_seq (mh_call h_reached_sets (hr.mono (by decide)) rfl (ma_cons (mv 0) (ma_cons (mv 1) ma_nil)))) (blkOk_by (N := nm_reach_of) (sc := defScope s_reach_of) (by decide +kernel)) (fun _ _ _ _ _ => (pg_tup rfl (pgs_cons (cv 3 sc_reach_of.nd) (pgs_cons (cv 4 sc_reach_of.nd) pgs_nil)))) (fun _ _ _ _ _ => (pts_one (mt_cmp om_in (mv 2) (mv 3) (by rfl)))) (fun _ _ _ _ _ => (mv 4))) ma_nil)))))
/-! reach_chance -/
abbrev s_reach_chance : Stmt := top 32
abbrev nm_reach_chance : List Str := ["net", "one", "other"]
theorem sc_reach_chance : FnScope ["net", "one", "other"] ["net", "one", "other"] (defScope s_reach_chance) := ⟨rfl, rfl, rfl, by decide +kernel, rfl, by decide +kernel, by decide +kernel⟩
def b_reach_chance : MS :=
  (sSeq (sExpr (mCall m_check_one_way (mCons (mVar 0) mNil)))
  (sSeq (sExpr (mCall m_check_place (mCons (mVar 0) (mCons (mVar 1) mNil))))
  (sSeq (sExpr (mCall m_check_place (mCons (mVar 0) (mCons (mVar 2) mNil))))
  (sRet (mCall m_reach_of (mCons (mVar 0) (mCons (mVar 1) (mCons (mVar 2) mNil))))))))
def m_reach_chance : List W → Sto → Option (W × Sto) := callP (runPure 3 3 b_reach_chance)
theorem ok_reach_chance {P : Program} {w : World} {K : PySem.W.Frag} {mg : Str → Option Value} {base : Heap} (D : DefT K mg "reach_chance" s_reach_chance) (h_check_one_way : Has P w K mg base "check_one_way" s_check_one_way ["net"] 6 m_check_one_way) (h_check_place : Has P w K mg base "check_place" s_check_place ["net", "place"] 3 m_check_place) (h_reach_of : Has P w K mg base "reach_of" s_reach_of ["net", "one", "other"] 5 m_reach_of) : Has P w K mg base "reach_chance" s_reach_chance ["net", "one", "other"] 7 m_reach_chance :=
  has_pure (N := nm_reach_chance) (ps := ["net", "one", "other"]) (k := 6) (body := b_reach_chance) D sc_reach_chance (fun _ _ _ _ _ _ us hl => match us, hl with | [_, _, _], _ => rfl) (fun f cdv A outer s H E hr => (mss_cons (ms_expr (mh_call h_check_one_way (hr.mono (by decide)) rfl (ma_cons (mv 0) ma_nil)))
      (mss_cons (ms_expr (mh_call h_check_place (hr.mono (by decide)) rfl (ma_cons (mv 0) (ma_cons (mv 1) ma_nil))))
      (mss_cons (ms_expr (mh_call h_check_place (hr.mono (by decide)) rfl (ma_cons (mv 0) (ma_cons (mv 2) ma_nil))))
      (mss_one (ms_ret (mh_call h_reach_of (hr.mono (by decide)) rfl (ma_cons (mv 0) (ma_cons (mv 1) (ma_cons (mv 2) ma_nil))))))))))
/-! reached_chances -/
abbrev s_reached_chances : Stmt := top 33
abbrev nm_reached_chances : List Str := ["net", "one", "other"]
theorem sc_reached_chances : FnScope ["net", "one", "other"] ["net", "one"] (defScope s_reached_chances) := ⟨rfl, rfl, rfl, by decide +kernel, rfl, by decide +kernel, by decide +kernel⟩
def b_reached_chances : MS :=
  (sSeq (sExpr (mCall m_check_one_way (mCons (mVar 0) mNil)))
  (sSeq (sExpr (mCall m_check_place (mCons (mVar 0) (mCons (mVar 1) mNil))))
  (sRet (mCall gTupOf (mCons (mLc .pure (miRange1 (mCons (mBin gIx (mVar 0) (mC (.int 0))) mNil)) (.nm 2) tYesM (mCall m_reach_of (mCons (mVar 0) (mCons (mVar 1) (mCons (mVar 2) mNil)))) [2]) mNil)))))
def m_reached_chances : List W → Sto → Option (W × Sto) := callP (runPure 3 2 b_reached_chances)
theorem ok_reached_chances {P : Program} {w : World} {K : PySem.W.Frag} {mg : Str → Option Value} {base : Heap} (D : DefT K mg "reached_chances" s_reached_chances) (h_check_one_way : Has P w K mg base "check_one_way" s_check_one_way ["net"] 6 m_check_one_way) (h_check_place : Has P w K mg base "check_place" s_check_place ["net", "place"] 3 m_check_place) (h_reach_of : Has P w K mg base "reach_of" s_reach_of ["net", "one", "other"] 5 m_reach_of) (z_range : mg "range" = none) (z_tuple : mg "tuple" = none) : Has P w K mg base "reached_chances" s_reached_chances ["net", "one"] 7 m_reached_chances :=
  has_pure (N := nm_reached_chances) (ps := ["net", "one"]) (k := 6) (body := b_reached_chances) D sc_reached_chances (fun _ _ _ _ _ _ us hl => match us, hl with | [_, _], _ => rfl) (fun f cdv A outer s H E hr => (mss_cons (ms_expr (mh_call h_check_one_way (hr.mono (by decide)) rfl (ma_cons (mv 0) ma_nil)))
      (mss_cons (ms_expr (mh_call h_check_place (hr.mono (by decide)) rfl (ma_cons (mv 0) (ma_cons (mv 1) ma_nil))))
      (mss_one (ms_ret (me_callTy cm_tuple rfl z_tuple bb_tuple (ma_cons (me_lc .pure (.nm 2) (own := [("other", 2)]) rfl sc_reached_chances.nd  (mi_range1 rfl z_range (ma_cons (me_ix (mv 0) me_int (fun _ _ => rfl)) ma_nil)) (blkOk_by (N := nm_reached_chances) (sc := defScope s_reached_chances) (by decide +kernel)) (fun _ _ _ _ _ => (cv 2 sc_reached_chances.nd)) (fun _ _ _ _ _ => mts_nil) (fun _ _ _ _ _ => (mh_call h_reach_of (hr.mono (by decide)) rfl (ma_cons (mv 0) (ma_cons (mv 1) (ma_cons (mv 2) ma_nil)))))) ma_nil)))))))
/-! reach_all -/
abbrev s_reach_all : Stmt := top 34
abbrev nm_reach_all : List Str := ["net", "one", "places", "chance"]
theorem sc_reach_all : FnScope ["net", "one", "places", "chance"] ["net", "one"] (defScope s_reach_all) := ⟨rfl, rfl, rfl, by decide +kernel, rfl, by decide +kernel, by decide +kernel⟩
def b_reach_all : MS :=
  (sSeq (sExpr (mCall m_check_one_way (mCons (mVar 0) mNil)))
  (sSeq (sExpr (mCall m_check_place (mCons (mVar 0) (mCons (mVar 1) mNil))))
  (sRet (mCall m_sum_of (mCons (mLc .pure (miSeq (mCall m_reached_sets (mCons (mVar 0) (mCons (mVar 1) mNil)))) (.tp [2, 3]) (mTest (mBin (gEq) (mCall gLen (mCons (mVar 2) mNil)) (mBin gIx (mVar 0) (mC (.int 0))))) (mVar 3) [2, 3]) mNil)))))
def m_reach_all : List W → Sto → Option (W × Sto) := callP (runPure 4 2 b_reach_all)
theorem ok_reach_all {P : Program} {w : World} {K : PySem.W.Frag} {mg : Str → Option Value} {base : Heap} (D : DefT K mg "reach_all" s_reach_all) (h_check_one_way : Has P w K mg base "check_one_way" s_check_one_way ["net"] 6 m_check_one_way) (h_check_place : Has P w K mg base "check_place" s_check_place ["net", "place"] 3 m_check_place) (h_sum_of : Has P w K mg base "sum_of" s_sum_of ["fractions"] 4 m_sum_of) (h_reached_sets : Has P w K mg base "reached_sets" s_reached_sets ["net", "one"] 4 m_reached_sets) (z_len : mg "len" = none) : Has P w K mg base "reach_all" s_reach_all ["net", "one"] 7 m_reach_all :=
  has_pure (N := nm_reach_all) (ps := ["net", "one"]) (k := 6) (body := b_reach_all) D sc_reach_all (fun _ _ _ _ _ _ us hl => match us, hl with | [_, _], _ => rfl) (fun f cdv A outer s H E hr => (mss_cons (ms_expr (mh_call h_check_one_way (hr.mono (by decide)) rfl (ma_cons (mv 0) ma_nil)))
      (mss_cons (ms_expr (mh_call h_check_place (hr.mono (by decide)) rfl (ma_cons (mv 0) (ma_cons (mv 1) ma_nil))))
      (mss_one (ms_ret (mh_call h_sum_of (hr.mono (by decide)) rfl (ma_cons (me_lc .pure (.tp [2, 3]) (own := [("places", 2), ("chance", 3)]) rfl sc_reach_all.nd  (mi_seq (mh_call h_reached_sets (hr.mono (by decide)) rfl (ma_cons (mv 0) (ma_cons (mv 1) ma_nil)))) (blkOk_by (N := nm_reach_all) (sc := defScope s_reach_all) (by decide +kernel)) (fun _ _ _ _ _ => (pg_tup rfl (pgs_cons (cv 2 sc_reach_all.nd) (pgs_cons (cv 3 sc_reach_all.nd) pgs_nil)))) (fun _ _ _ _ _ => (pts_one (mt_cmp (om_eq hr) (me_callB cm_len rfl z_len bb_len (ma_cons (mv 2) ma_nil)) (me_ix (mv 0) me_int (fun _ _ => rfl)) (nomark _)))) (fun _ _ _ _ _ => (mv 3))) ma_nil)))))))
/-! _law_cell -/
abbrev s__law_cell : Stmt := top 36
abbrev nm__law_cell : List Str := ["script", "k"]
theorem sc__law_cell : FnScope ["script", "k"] ["script", "k"] (defScope s__law_cell) := ⟨rfl, rfl, rfl, by decide +kernel, rfl, by decide +kernel, by decide +kernel⟩
def b__law_cell : MS :=
  (sRet (mIf (mTest (mBin (gInt iLt) (mVar 1) (mCall gLen (mCons (mVar 0) mNil)))) (mBin gIx (mVar 0) (mVar 1)) (mBin (gAdd .pure) (mBin (gMul .pure) (mC (.int 9497)) (mVar 1)) (mBin (gInt iMod) (mCall gToInt (mCons (mCall (gIs fun is => some (.int is.sum)) (mCons (mSl .pure (mVar 0) mNo (mSo (mC (.int 1)))) mNil)) mNil)) (mC (.int 1000003))))))
def m__law_cell : List W → Sto → Option (W × Sto) := runDef 2 2 false b__law_cell
theorem ok__law_cell {P : Program} {w : World} {K : PySem.W.Frag} {mg : Str → Option Value} {base : Heap} (D : DefT K mg "_law_cell" s__law_cell) (z_len : mg "len" = none) (z_sum : mg "sum" = none) (z_int : mg "int" = none) : Has P w K mg base "_law_cell" s__law_cell ["script", "k"] 1 m__law_cell :=
  has_def (N := nm__law_cell) (ps := ["script", "k"]) (k := 0) (body := b__law_cell) D sc__law_cell (fun _ _ _ _ _ _ us hl => match us, hl with | [_, _], _ => rfl) (fun f cdv A outer s H E hr => (mss_one (ms_ret (me_if (mt_cmp om_lt (mv 1) (me_callB cm_len rfl z_len bb_len (ma_cons (mv 0) ma_nil)) (nomark _)) (me_ix (mv 0) (mv 1) (fun _ _ => rfl)) (me_bin (om_add .pure) (me_bin (om_mul .pure) me_int (mv 1)) (me_bin om_mod (me_callTy cm_int rfl z_int bb_int (ma_cons (me_callB (cm_sum rfl) rfl z_sum bb_sum (ma_cons (me_sl .pure (mv 0) mo_no (mo_so me_int)) ma_nil)) ma_nil)) me_int))))))
/-! _law_box -/
abbrev s__law_box : Stmt := top 37
abbrev nm__law_box : List Str := ["great"]
theorem sc__law_box : FnScope ["great"] ["great"] (defScope s__law_box) := ⟨rfl, rfl, rfl, by decide +kernel, rfl, by decide +kernel, by decide +kernel⟩
def b__law_box : MS :=
  (sRet (mList .own (mCons (mCall gAbs (mCons (mVar 0) mNil)) (mCons (mBin (gInt iGe) (mCall gAbs (mCons (mVar 0) mNil)) (mBin (gInt iPow) (mC (.int 10)) (mC (.int 18)))) (mCons (mBin (gInt iMod) (mCall gToInt (mCons (mCall gAbs (mCons (mVar 0) mNil)) mNil)) (mC (.int 2147483629))) (mCons (mC (.int 0)) mNil))))))
def m__law_box : List W → Sto → Option (W × Sto) := runDef 1 1 true b__law_box
theorem ok__law_box {P : Program} {w : World} {K : PySem.W.Frag} {mg : Str → Option Value} {base : Heap} (D : DefT K mg "_law_box" s__law_box) (z_abs : mg "abs" = none) (z_int : mg "int" = none) : Has P w K mg base "_law_box" s__law_box ["great"] 1 m__law_box :=
  has_def (N := nm__law_box) (ps := ["great"]) (k := 0) (body := b__law_box) D sc__law_box (fun _ _ _ _ _ _ us hl => match us, hl with | [_], _ => rfl) (fun f cdv A outer s H E hr => (mss_one (ms_ret (me_list .own (ma_cons (me_callB cm_abs rfl z_abs bb_abs (ma_cons (mv 0) ma_nil)) (ma_cons (me_cmp om_ge (me_callB cm_abs rfl z_abs bb_abs (ma_cons (mv 0) ma_nil)) (me_bin om_pow me_int me_int) (nomark _)) (ma_cons (me_bin om_mod (me_callTy cm_int rfl z_int bb_int (ma_cons (me_callB cm_abs rfl z_abs bb_abs (ma_cons (mv 0) ma_nil)) ma_nil)) me_int) (ma_cons me_int ma_nil))))))))
/-! _law_take -/
abbrev s__law_take : Stmt := top 38
abbrev nm__law_take : List Str := ["box", "many", "mixed", "digit"]
theorem sc__law_take : FnScope ["box", "many", "mixed", "digit"] ["box", "many"] (defScope s__law_take) := ⟨rfl, rfl, rfl, by decide +kernel, rfl, by decide +kernel, by decide +kernel⟩
def b__law_take : MS :=
  (sSeq (sIf (mAnd (mTest (mBin gIx (mVar 0) (mC (.int 1)))) (mTest (mBin (gInt iGt) (mBin gIx (mVar 0) (mC (.int 0))) (mC (.int 0))))) (sSeq (sAsg (mBin (gInt iMod) (mCall gToInt (mCons (mBin gIx (mVar 0) (mC (.int 0))) mNil)) (mVar 1)) (mgName 3))
  (sSeq (sAsg (mBin (gInt iDiv) (mBin gIx (mVar 0) (mC (.int 0))) (mVar 1)) (mgSub (mVar 0) (mC (.int 0))))
  (sRet (mVar 3)))) sNil)
  (sSeq (sAsg (mBin (gAdd .pure) (mBin gIx (mVar 0) (mC (.int 3))) (mC (.int 1))) (mgSub (mVar 0) (mC (.int 3))))
  (sSeq (sAsg (mBin (gInt iMod) (mCall gToInt (mCons (mBin (gInt iPow) (mBin (gAdd .pure) (mBin (gAdd .pure) (mBin gIx (mVar 0) (mC (.int 2))) (mBin (gMul .pure) (mC (.int 15486407)) (mBin gIx (mVar 0) (mC (.int 3))))) (mC (.int 179425261))) (mC (.int 5))) mNil)) (mC (.int 2147483647))) (mgName 2))
  (sRet (mBin (gInt iMod) (mCall gToInt (mCons (mBin (gInt iDiv) (mBin (gInt iMod) (mCall gToInt (mCons (mBin (gInt iPow) (mBin (gAdd .pure) (mBin (gMul .pure) (mVar 2) (mC (.int 48271))) (mBin (gMul .pure) (mC (.int 9511)) (mBin gIx (mVar 0) (mC (.int 3))))) (mC (.int 3))) mNil)) (mC (.int 2147483587))) (mC (.int 64))) mNil)) (mVar 1))))))
def m__law_take : List W → Sto → Option (W × Sto) := runDef 4 2 false b__law_take
theorem ok__law_take {P : Program} {w : World} {K : PySem.W.Frag} {mg : Str → Option Value} {base : Heap} (D : DefT K mg "_law_take" s__law_take) (z_int : mg "int" = none) : Has P w K mg base "_law_take" s__law_take ["box", "many"] 1 m__law_take :=
  has_def (N := nm__law_take) (ps := ["box", "many"]) (k := 0) (body := b__law_take) D sc__law_take (fun _ _ _ _ _ _ us hl => match us, hl with | [_, _], _ => rfl) (fun f cdv A outer s H E hr => (mss_cons (ms_if (PW.pt (mw_and (mt_val (me_ix (mv 0) me_int (fun _ _ => rfl))) (mw_and1 (mt_cmp om_gt (me_ix (mv 0) me_int (fun _ _ => rfl)) me_int (nomark _))))) (mss_cons (ms_set 3 sc__law_take.nd (me_bin om_mod (me_callTy cm_int rfl z_int bb_int (ma_cons (me_ix (mv 0) me_int (fun _ _ => rfl)) ma_nil)) (mv 1)))
      (mss_cons (ms_asg (me_bin om_div (me_ix (mv 0) me_int (fun _ _ => rfl)) (mv 1)) (mg_sub (mv 0) me_int))
      (mss_one (ms_ret (mv 3))))) mss_nil)
      (mss_cons (ms_asg (me_bin (om_add .pure) (me_ix (mv 0) me_int (fun _ _ => rfl)) me_int) (mg_sub (mv 0) me_int))
      (mss_cons (ms_set 2 sc__law_take.nd (me_bin om_mod (me_callTy cm_int rfl z_int bb_int (ma_cons (me_bin om_pow (me_bin (om_add .pure) (me_bin (om_add .pure) (me_ix (mv 0) me_int (fun _ _ => rfl)) (me_bin (om_mul .pure) me_int (me_ix (mv 0) me_int (fun _ _ => rfl)))) me_int) me_int) ma_nil)) me_int))
      (mss_one (ms_ret (me_bin om_mod (me_callTy cm_int rfl z_int bb_int (ma_cons (me_bin om_div (me_bin om_mod (me_callTy cm_int rfl z_int bb_int (ma_cons (me_bin om_pow (me_bin (om_add .pure) (me_bin (om_mul .pure) (mv 2) me_int) (me_bin (om_mul .pure) me_int (me_ix (mv 0) me_int (fun _ _ => rfl)))) me_int) ma_nil)) me_int) me_int) ma_nil)) (mv 1))))))))
/-! _law_mixed -/
abbrev s__law_mixed : Stmt := top 39
abbrev nm__law_mixed : List Str := ["box", "items", "turn", "left", "found"]
theorem sc__law_mixed : FnScope ["box", "items", "turn", "left", "found"] ["box", "items"] (defScope s__law_mixed) := ⟨rfl, rfl, rfl, by decide +kernel, rfl, by decide +kernel, by decide +kernel⟩
def b__law_mixed : MS :=
  (sSeq (sPar 3 4 (mCons (mCall (gListOf .own) (mCons (mVar 1) mNil)) (mCons (mList .own mNil) mNil)))
  (sSeq (sFor (miRange1 (mCons (mCall gLen (mCons (mVar 1) mNil)) mNil)) (mgName 2) (sExpr (mMeth "list" gAppend (mVar 4) (mCons (mMeth "list" gPopAt (mVar 3) (mCons (mCall m__law_take (mCons (mVar 0) (mCons (mCall gLen (mCons (mVar 3) mNil)) mNil))) mNil)) mNil))))
  (sRet (mVar 4))))
def m__law_mixed : List W → Sto → Option (W × Sto) := runDef 5 2 false b__law_mixed
theorem ok__law_mixed {P : Program} {w : World} {K : PySem.W.Frag} {mg : Str → Option Value} {base : Heap} (D : DefT K mg "_law_mixed" s__law_mixed) (h__law_take : Has P w K mg base "_law_take" s__law_take ["box", "many"] 1 m__law_take) (z_list : mg "list" = none) (z_len : mg "len" = none) (z_range : mg "range" = none) : Has P w K mg base "_law_mixed" s__law_mixed ["box", "items"] 2 m__law_mixed :=
  has_def (N := nm__law_mixed) (ps := ["box", "items"]) (k := 1) (body := b__law_mixed) D sc__law_mixed (fun _ _ _ _ _ _ us hl => match us, hl with | [_, _], _ => rfl) (fun f cdv A outer s H E hr => (mss_cons (ms_par (ps_par (i := 3) (j := 4) rfl sc__law_mixed.nd rfl rfl (by decide) rfl rfl (ma_cons (me_callTy (cm_list .own) rfl z_list bb_list (ma_cons (mv 1) ma_nil)) (ma_cons (me_list .own ma_nil) ma_nil)) (by rfl)))
      (mss_cons (ms_for PassesOwn.never rfl (mi_range1 rfl z_range (ma_cons (me_callB cm_len rfl z_len bb_len (ma_cons (mv 1) ma_nil)) ma_nil)) (gv 2 sc__law_mixed.nd) (mss_one (ms_expr (me_meth PySem.F.plainAttrs_list PySem.F.slot_list_append PySem.F.type_list_append mm_append (mv 4) (ma_cons (me_meth PySem.F.plainAttrs_list PySem.F.slot_list_pop PySem.F.type_list_pop mm_popAt (mv 3) (ma_cons (mh_call h__law_take (hr.mono (by decide)) rfl (ma_cons (mv 0) (ma_cons (me_callB cm_len rfl z_len bb_len (ma_cons (mv 3) ma_nil)) ma_nil))) ma_nil)) ma_nil)))))
      (mss_one (ms_ret (mv 4))))))
/-! _law_same -/
abbrev s__law_same : Stmt := top 40
abbrev nm__law_same : List Str := ["told", "due", "k"]
theorem sc__law_same : FnScope ["told", "due", "k"] ["told", "due"] (defScope s__law_same) := ⟨rfl, rfl, rfl, by decide +kernel, rfl, by decide +kernel, by decide +kernel⟩
def b__law_same (self : List W → Sto → Option (W × Sto)) : MS :=
  (sSeq (sIf (mOr (mTest (mBin (gOr gIsN gIsB) (mVar 1) (mC .non))) (mTest (mUn (gIsi "bool") (mVar 1)))) (sRet (mIf (mTest (mBin (gOr gIsN gIsB) (mVar 1) (mC .non))) (mBin (gOr gIsN gIsB) (mVar 0) (mC .non)) (mAndV (mUn (gIsi "bool") (mVar 0)) (mBin (gEq) (mBin (gOr gIsN gIsB) (mVar 0) (mC (.bl true))) (mBin (gOr gIsN gIsB) (mVar 1) (mC (.bl true))))))) sNil)
  (sSeq (sIf (mTest (mUn (gIsi "int") (mVar 1))) (sRet (mAndV (mUn (gIsi "int") (mVar 0)) (mAndV (mNotV (mUn (gIsi "bool") (mVar 0))) (mBin (gEq) (mBin (gInt iSub) (mCall gToInt (mCons (mVar 0) mNil)) (mVar 1)) (mC (.int 0)))))) sNil)
  (sSeq (sIf (mTest (mUn (gIsi "str") (mVar 1))) (sRet (mAndV (mUn (gIsi "str") (mVar 0)) (mBin (gEq) (mVar 0) (mVar 1)))) sNil)
  (sSeq (sIf (mOr (mNot (mTest (mUn (gIsi2 "list" "tuple") (mVar 1)))) (mOr (mTest (mBin (gNe) (mUn (gIsi "list") (mVar 0)) (mUn (gIsi "list") (mVar 1)))) (mTest (mBin (gNe) (mUn (gIsi "tuple") (mVar 0)) (mUn (gIsi "tuple") (mVar 1)))))) (sRet (mC (.bl false))) sNil)
  (sRet (mAndV (mBin (gEq) (mCall gLen (mCons (mVar 0) mNil)) (mCall gLen (mCons (mVar 1) mNil))) (mBin (gEq) (mLc .pure (miRange1 (mCons (mCall gLen (mCons (mVar 1) mNil)) mNil)) (.nm 2) (mNot (mTest (mCall self (mCons (mBin gIx (mVar 0) (mVar 2)) (mCons (mBin gIx (mVar 1) (mVar 2)) mNil))))) (mVar 2) [2]) (mList .pure mNil))))))))
def m__law_same : Nat → List W → Sto → Option (W × Sto)
  | 0 => fun _ _ => none
  | n + 1 => callP (runPure 3 2 (b__law_same (m__law_same n)))
theorem ok__law_same {P : Program} {w : World} {K : PySem.W.Frag} {mg : Str → Option Value} {base : Heap} (D : DefT K mg "_law_same" s__law_same) (z_isinstance : mg "isinstance" = none) (z_bool : mg "bool" = none) (z_int : mg "int" = none) (z_str : mg "str" = none) (z_list : mg "list" = none) (z_tuple : mg "tuple" = none) (z_len : mg "len" = none) (z_range : mg "range" = none) : ∀ n : Nat, Has P w K mg base "_law_same" s__law_same ["told", "due"] (0 + n) (m__law_same n)
  | 0 => has_none D (fun _ _ _ _ _ _ us hl => match us, hl with | [_, _], _ => rfl)
  | n + 1 => by
    have h_self := ok__law_same D z_isinstance z_bool z_int z_str z_list z_tuple z_len z_range (base := base) (P := P) (w := w) n
    exact has_pure (N := nm__law_same) (ps := ["told", "due"]) (k := 0 + n) (body := b__law_same (m__law_same n)) D sc__law_same (fun _ _ _ _ _ _ us hl => match us, hl with | [_, _], _ => rfl) (fun f cdv A outer s H E hr => (mss_cons (ms_if (PW.pt (mw_or (mt_cmp om_is (mv 1) me_non (nomark _)) (mw_or1 (mt_val (me_isi rfl z_isinstance bb_isinstance rfl z_bool bb_bool ki_bool (mv 1)))))) (mss_one (ms_ret (me_if (mt_cmp om_is (mv 1) me_non (nomark _)) (me_cmp om_is (mv 0) me_non (nomark _)) (me_and (me_isi rfl z_isinstance bb_isinstance rfl z_bool bb_bool ki_bool (mv 0)) (me_one (me_cmp (om_eq hr) (me_cmp om_is (mv 0) me_bl (nomark _)) (me_cmp om_is (mv 1) me_bl (nomark _)) (nomark _))))))) mss_nil)
      (mss_cons (ms_if (mt_val (me_isi rfl z_isinstance bb_isinstance rfl z_int bb_int ki_int (mv 1))) (mss_one (ms_ret (me_and (me_isi rfl z_isinstance bb_isinstance rfl z_int bb_int ki_int (mv 0)) (me_and (me_not (me_isi rfl z_isinstance bb_isinstance rfl z_bool bb_bool ki_bool (mv 0))) (me_one (me_cmp (om_eq hr) (me_bin om_sub (me_callTy cm_int rfl z_int bb_int (ma_cons (mv 0) ma_nil)) (mv 1)) me_int (nomark _))))))) mss_nil)
      (mss_cons (ms_if (mt_val (me_isi rfl z_isinstance bb_isinstance rfl z_str bb_str ki_str (mv 1))) (mss_one (ms_ret (me_and (me_isi rfl z_isinstance bb_isinstance rfl z_str bb_str ki_str (mv 0)) (me_one (me_cmp (om_eq hr) (mv 0) (mv 1) (nomark _)))))) mss_nil)
      (mss_cons (ms_if (PW.pt (mw_or (mt_not (mt_val (me_isi2 rfl z_isinstance bb_isinstance rfl z_list bb_list ki_list rfl z_tuple bb_tuple ki_tuple (mv 1)))) (mw_or (mt_cmp (om_ne hr) (me_isi rfl z_isinstance bb_isinstance rfl z_list bb_list ki_list (mv 0)) (me_isi rfl z_isinstance bb_isinstance rfl z_list bb_list ki_list (mv 1)) (nomark _)) (mw_or1 (mt_cmp (om_ne hr) (me_isi rfl z_isinstance bb_isinstance rfl z_tuple bb_tuple ki_tuple (mv 0)) (me_isi rfl z_isinstance bb_isinstance rfl z_tuple bb_tuple ki_tuple (mv 1)) (nomark _)))))) (mss_one (ms_ret me_bl)) mss_nil)
      (mss_one (ms_ret (me_and (me_cmp (om_eq hr) (me_callB cm_len rfl z_len bb_len (ma_cons (mv 0) ma_nil)) (me_callB cm_len rfl z_len bb_len (ma_cons (mv 1) ma_nil)) (nomark _)) (me_one (me_cmp (om_eq hr) (me_lc .pure (.nm 2) (own := [("k", 2)]) rfl sc__law_same.nd  (mi_range1 rfl z_range (ma_cons (me_callB cm_len rfl z_len bb_len (ma_cons (mv 1) ma_nil)) ma_nil)) (blkOk_by (N := nm__law_same) (sc := defScope s__law_same) (by decide +kernel)) (fun _ _ _ _ _ => (cv 2 sc__law_same.nd)) (fun _ _ _ _ _ => (pts_one (mt_not (mt_val (mh_call h_self hr rfl (ma_cons (me_ix (mv 0) (mv 2) (fun _ _ => rfl)) (ma_cons (me_ix (mv 1) (mv 2) (fun _ _ => rfl)) ma_nil))))))) (fun _ _ _ _ _ => (mv 2))) (me_list .pure ma_nil) (nomark _)))))))))))
/-! _law_pick -/
abbrev s__law_pick : Stmt := top 41
abbrev nm__law_pick : List Str := ["box", "items"]
theorem sc__law_pick : FnScope ["box", "items"] ["box", "items"] (defScope s__law_pick) := ⟨rfl, rfl, rfl, by decide +kernel, rfl, by decide +kernel, by decide +kernel⟩
def b__law_pick : MS :=
  (sRet (mBin gIx (mVar 1) (mCall m__law_take (mCons (mVar 0) (mCons (mCall gLen (mCons (mVar 1) mNil)) mNil)))))
def m__law_pick : List W → Sto → Option (W × Sto) := runDef 2 2 false b__law_pick
theorem ok__law_pick {P : Program} {w : World} {K : PySem.W.Frag} {mg : Str → Option Value} {base : Heap} (D : DefT K mg "_law_pick" s__law_pick) (h__law_take : Has P w K mg base "_law_take" s__law_take ["box", "many"] 1 m__law_take) (z_len : mg "len" = none) : Has P w K mg base "_law_pick" s__law_pick ["box", "items"] 2 m__law_pick :=
  has_def (N := nm__law_pick) (ps := ["box", "items"]) (k := 1) (body := b__law_pick) D sc__law_pick (fun _ _ _ _ _ _ us hl => match us, hl with | [_, _], _ => rfl) (fun f cdv A outer s H E hr => (mss_one (ms_ret (me_ix (mv 1) (mh_call h__law_take (hr.mono (by decide)) rfl (ma_cons (mv 0) (ma_cons (me_callB cm_len rfl z_len bb_len (ma_cons (mv 1) ma_nil)) ma_nil))) (fun _ _ => rfl)))))
/-! _law_low -/
abbrev s__law_low : Stmt := top 42
abbrev nm__law_low : List Str := ["top", "base", "one", "other"]
theorem sc__law_low : FnScope ["top", "base", "one", "other"] ["top", "base"] (defScope s__law_low) := ⟨rfl, rfl, rfl, by decide +kernel, rfl, by decide +kernel, by decide +kernel⟩
def b__law_low : MS :=
  (sSeq (sPar 2 3 (mCons (mCall gAbs (mCons (mVar 0) mNil)) (mCons (mVar 1) mNil)))
  (sSeq (sWhile (fuelAbs 3) (mTest (mBin (gNe) (mVar 3) (mC (.int 0)))) (sPar 2 3 (mCons (mVar 3) (mCons (mBin (gInt iMod) (mCall gToInt (mCons (mVar 2) mNil)) (mVar 3)) mNil))))
  (sRet (mTup (mCons (mBin (gInt iDiv) (mVar 0) (mVar 2)) (mCons (mBin (gInt iDiv) (mVar 1) (mVar 2)) mNil))))))
def m__law_low : List W → Sto → Option (W × Sto) := callP (runPure 4 2 b__law_low)
theorem ok__law_low {P : Program} {w : World} {K : PySem.W.Frag} {mg : Str → Option Value} {base : Heap} (D : DefT K mg "_law_low" s__law_low) (z_abs : mg "abs" = none) (z_int : mg "int" = none) : Has P w K mg base "_law_low" s__law_low ["top", "base"] 1 m__law_low :=
  has_pure (N := nm__law_low) (ps := ["top", "base"]) (k := 0) (body := b__law_low) D sc__law_low (fun _ _ _ _ _ _ us hl => match us, hl with | [_, _], _ => rfl) (fun f cdv A outer s H E hr => (mss_cons (ms_par (ps_par (i := 2) (j := 3) rfl sc__law_low.nd rfl rfl (by decide) rfl rfl (ma_cons (me_callB cm_abs rfl z_abs bb_abs (ma_cons (mv 0) ma_nil)) (ma_cons (mv 1) ma_nil)) (by rfl)))
      (mss_cons (ms_while (fuelAbs 3) PassesOwn.never (mt_cmp (om_ne hr) (mv 3) me_int (nomark _)) (mss_one (ms_par (ps_par (i := 2) (j := 3) rfl sc__law_low.nd rfl rfl (by decide) rfl rfl (ma_cons (mv 3) (ma_cons (me_bin om_mod (me_callTy cm_int rfl z_int bb_int (ma_cons (mv 2) ma_nil)) (mv 3)) ma_nil)) (by rfl)))))
      (mss_one (ms_ret (me_tup (ma_cons (me_bin om_div (mv 0) (mv 2)) (ma_cons (me_bin om_div (mv 1) (mv 2)) ma_nil))))))))
/-! _law_mul -/
abbrev s__law_mul : Stmt := top 43
abbrev nm__law_mul : List Str := ["one", "other"]
theorem sc__law_mul : FnScope ["one", "other"] ["one", "other"] (defScope s__law_mul) := ⟨rfl, rfl, rfl, by decide +kernel, rfl, by decide +kernel, by decide +kernel⟩
def b__law_mul : MS :=
  (sRet (mCall m__law_low (mCons (mBin (gMul .pure) (mBin gIx (mVar 0) (mC (.int 0))) (mBin gIx (mVar 1) (mC (.int 0)))) (mCons (mBin (gMul .pure) (mBin gIx (mVar 0) (mC (.int 1))) (mBin gIx (mVar 1) (mC (.int 1)))) mNil))))
def m__law_mul : List W → Sto → Option (W × Sto) := callP (runPure 2 2 b__law_mul)
theorem ok__law_mul {P : Program} {w : World} {K : PySem.W.Frag} {mg : Str → Option Value} {base : Heap} (D : DefT K mg "_law_mul" s__law_mul) (h__law_low : Has P w K mg base "_law_low" s__law_low ["top", "base"] 1 m__law_low) : Has P w K mg base "_law_mul" s__law_mul ["one", "other"] 2 m__law_mul :=
  has_pure (N := nm__law_mul) (ps := ["one", "other"]) (k := 1) (body := b__law_mul) D sc__law_mul (fun _ _ _ _ _ _ us hl => match us, hl with | [_, _], _ => rfl) (fun f cdv A outer s H E hr => (mss_one (ms_ret (mh_call h__law_low (hr.mono (by decide)) rfl (ma_cons (me_bin (om_mul .pure) (me_ix (mv 0) me_int (fun _ _ => rfl)) (me_ix (mv 1) me_int (fun _ _ => rfl))) (ma_cons (me_bin (om_mul .pure) (me_ix (mv 0) me_int (fun _ _ => rfl)) (me_ix (mv 1) me_int (fun _ _ => rfl))) ma_nil))))))
/-! _law_not -/
abbrev s__law_not : Stmt := top 45
abbrev nm__law_not : List Str := ["one"]
theorem sc__law_not : FnScope ["one"] ["one"] (defScope s__law_not) := ⟨rfl, rfl, rfl, by decide +kernel, rfl, by decide +kernel, by decide +kernel⟩
def b__law_not : MS :=
  (sRet (mTup (mCons (mBin (gInt iSub) (mBin gIx (mVar 0) (mC (.int 1))) (mBin gIx (mVar 0) (mC (.int 0)))) (mCons (mBin gIx (mVar 0) (mC (.int 1))) mNil))))
def m__law_not : List W → Sto → Option (W × Sto) := callP (runPure 1 1 b__law_not)
theorem ok__law_not {P : Program} {w : World} {K : PySem.W.Frag} {mg : Str → Option Value} {base : Heap} (D : DefT K mg "_law_not" s__law_not) : Has P w K mg base "_law_not" s__law_not ["one"] 1 m__law_not :=
  has_pure (N := nm__law_not) (ps := ["one"]) (k := 0) (body := b__law_not) D sc__law_not (fun _ _ _ _ _ _ us hl => match us, hl with | [_], _ => rfl) (fun f cdv A outer s H E hr => (mss_one (ms_ret (me_tup (ma_cons (me_bin om_sub (me_ix (mv 0) me_int (fun _ _ => rfl)) (me_ix (mv 0) me_int (fun _ _ => rfl))) (ma_cons (me_ix (mv 0) me_int (fun _ _ => rfl)) ma_nil))))))
/-! _law_spread -/
abbrev s__law_spread : Stmt := top 47
abbrev nm__law_spread : List Str := ["many", "ties", "start", "turn", "base", "todo", "found", "a", "b", "chance", "out", "reached", "tried", "weight", "k", "top", "bottom", "one"]
theorem sc__law_spread : FnScope ["many", "ties", "start", "turn", "base", "todo", "found", "a", "b", "chance", "out", "reached", "tried", "weight", "k", "top", "bottom", "one"] ["many", "ties", "start"] (defScope s__law_spread) := ⟨rfl, rfl, rfl, by decide +kernel, rfl, by decide +kernel, by decide +kernel⟩
def b__law_spread : MS :=
  (sSeq (sPar3 4 5 6 (mCons (mC (.int 1)) (mCons (mList .own (mCons (mTup (mCons (mTup (mCons (mVar 2) mNil)) (mCons (mTup mNil) (mCons (mC (.int 1)) mNil)))) mNil)) (mCons (mList .own mNil) mNil))))
  (sSeq (sFor (miSeq (mVar 1)) (mgTup 3 (mgCons (mgName 7) (mgCons (mgName 8) (mgCons (mgName 9) mgNil)))) (sAsg (mBin (gMul .pure) (mVar 4) (mBin gIx (mVar 9) (mC (.int 1)))) (mgName 4)))
  (sSeq (sFor (miRange1 (mCons (mC (.int 20000)) mNil)) (mgName 3) (sSeq (sIf (mTest (mBin (gEq) (mVar 5) (mList .pure mNil))) sBk sNil)
  (sSeq (sAsg (mMeth "list" gPop (mVar 5) mNil) (mgTup 3 (mgCons (mgName 11) (mgCons (mgName 12) (mgCons (mgName 13) mgNil)))))
  (sSeq (sAsg (mLc .pure (miRange1 (mCons (mCall gLen (mCons (mVar 1) mNil)) mNil)) (.nm 14) (mAnd (mTest (mBin (gIn true) (mVar 14) (mVar 12))) (mAnd (mTest (mBin (gIn false) (mBin gIx (mBin gIx (mVar 1) (mVar 14)) (mC (.int 0))) (mVar 11))) (mTest (mBin (gIn true) (mBin gIx (mBin gIx (mVar 1) (mVar 14)) (mC (.int 1))) (mVar 11))))) (mVar 14) [14]) (mgName 10))
  (sIf (mTest (mBin (gEq) (mVar 10) (mList .pure mNil))) (sSeq (sFor (miRange1 (mCons (mCall gLen (mCons (mVar 1) mNil)) mNil)) (mgName 14) (sAsg (mBin (gMul .pure) (mVar 13) (mIf (mTest (mBin (gIn false) (mVar 14) (mVar 12))) (mC (.int 1)) (mBin gIx (mBin gIx (mBin gIx (mVar 1) (mVar 14)) (mC (.int 2))) (mC (.int 1))))) (mgName 13)))
  (sExpr (mMeth "list" gAppend (mVar 6) (mCons (mTup (mCons (mVar 11) (mCons (mVar 13) mNil))) mNil)))) (sSeq (sAsg (mBin gIx (mBin gIx (mVar 1) (mBin gIx (mVar 10) (mC (.int 0)))) (mC (.int 2))) (mgTup 2 (mgCons (mgName 15) (mgCons (mgName 16) mgNil))))
  (sSeq (sExpr (mMeth "list" gAppend (mVar 5) (mCons (mTup (mCons (mBin (gAdd .pure) (mVar 11) (mTup (mCons (mBin gIx (mBin gIx (mVar 1) (mBin gIx (mVar 10) (mC (.int 0)))) (mC (.int 1))) mNil))) (mCons (mBin (gAdd .pure) (mVar 12) (mTup (mCons (mBin gIx (mVar 10) (mC (.int 0))) mNil))) (mCons (mBin (gMul .pure) (mVar 13) (mVar 15)) mNil)))) mNil)))
  (sSeq (sExpr (mMeth "list" gAppend (mVar 5) (mCons (mTup (mCons (mVar 11) (mCons (mBin (gAdd .pure) (mVar 12) (mTup (mCons (mBin gIx (mVar 10) (mC (.int 0))) mNil))) (mCons (mBin (gMul .pure) (mVar 13) (mBin (gInt iSub) (mVar 16) (mVar 15))) mNil)))) mNil)))
  (sAsg (mLc .own (miSeq (mVar 5)) (.nm 17) (mTest (mBin (gInt iGt) (mBin gIx (mVar 17) (mC (.int 2))) (mC (.int 0)))) (mVar 17) [17]) (mgName 5))))))))))
  (sRet (mTup (mCons (mVar 6) (mCons (mVar 4) mNil)))))))
def m__law_spread : List W → Sto → Option (W × Sto) := callP (runPure 18 3 b__law_spread)
theorem ok__law_spread {P : Program} {w : World} {K : PySem.W.Frag} {mg : Str → Option Value} {base : Heap} (D : DefT K mg "_law_spread" s__law_spread) (z_range : mg "range" = none) (z_len : mg "len" = none) : Has P w K mg base "_law_spread" s__law_spread ["many", "ties", "start"] 1 m__law_spread :=
  has_pure (N := nm__law_spread) (ps := ["many", "ties", "start"]) (k := 0) (body := b__law_spread) D sc__law_spread (fun _ _ _ _ _ _ us hl => match us, hl with | [_, _, _], _ => rfl) (fun f cdv A outer s H E hr => (mss_cons (ms_par3 (ps_par3 (i := 4) (j := 5) (l := 6) rfl sc__law_spread.nd rfl rfl rfl (by decide) (by decide) (by decide) rfl rfl rfl (ma_cons me_int (ma_cons (me_list .own (ma_cons (me_tup (ma_cons (me_tup (ma_cons (mv 2) ma_nil)) (ma_cons (me_tup ma_nil) (ma_cons me_int ma_nil)))) ma_nil)) (ma_cons (me_list .own ma_nil) ma_nil))) (by rfl)))
      (mss_cons (ms_for PassesOwn.never rfl (mi_seq (mv 1)) (mg_tup rfl (mgs_cons (gv 7 sc__law_spread.nd) (mgs_cons (gv 8 sc__law_spread.nd) (mgs_cons (gv 9 sc__law_spread.nd) mgs_nil)))) (mss_one (ms_set 4 sc__law_spread.nd (me_bin (om_mul .pure) (mv 4) (me_ix (mv 9) me_int (fun _ _ => rfl))))))
      (mss_cons (ms_for PassesOwn.never rfl (mi_range1 rfl z_range (ma_cons me_int ma_nil)) (gv 3 sc__law_spread.nd) (mss_cons (ms_if (mt_cmp (om_eq hr) (mv 5) (me_list .pure ma_nil) (nomark _)) (mss_one ms_break) mss_nil)
      (mss_cons (ms_asg (me_meth0 PySem.F.plainAttrs_list PySem.F.slot_list_pop PySem.F.type_list_pop mm_pop (mv 5)) (mg_tup rfl (mgs_cons (gv 11 sc__law_spread.nd) (mgs_cons (gv 12 sc__law_spread.nd) (mgs_cons (gv 13 sc__law_spread.nd) mgs_nil)))))
      (mss_cons (ms_setLc .pure (.nm 14) (own := [("k", 14)]) rfl sc__law_spread.nd (i := 10) rfl rfl (sw_true rfl rfl rfl (by decide +kernel)) (mi_range1 rfl z_range (ma_cons (me_callB cm_len rfl z_len bb_len (ma_cons (mv 1) ma_nil)) ma_nil)) (blkOk_by (N := nm__law_spread) (sc := defScope s__law_spread) (by decide +kernel)) (fun _ _ _ _ _ => (cv 14 sc__law_spread.nd)) (fun _ _ _ _ _ => (pts_one (PW.pt (mw_and (mt_cmp om_notIn (mv 14) (mv 12) (by rfl)) (mw_and (mt_cmp om_in (me_ix (me_ix (mv 1) (mv 14) (fun _ _ => rfl)) me_int (fun _ _ => rfl)) (mv 11) (by rfl)) (mw_and1 (mt_cmp om_notIn (me_ix (me_ix (mv 1) (mv 14) (fun _ _ => rfl)) me_int (fun _ _ => rfl)) (mv 11) (by rfl)))))))) (fun _ _ _ _ _ => (mv 14)))
      (mss_one (ms_if (mt_cmp (om_eq hr) (mv 10) (me_list .pure ma_nil) (nomark _)) (mss_cons (ms_for PassesOwn.never rfl (mi_range1 rfl z_range (ma_cons (me_callB cm_len rfl z_len bb_len (ma_cons (mv 1) ma_nil)) ma_nil)) (gv 14 sc__law_spread.nd) (mss_one (ms_set 13 sc__law_spread.nd (me_bin (om_mul .pure) (mv 13) (me_if (mt_cmp om_in (mv 14) (mv 12) (by rfl)) me_int (me_ix (me_ix (me_ix (mv 1) (mv 14) (fun _ _ => rfl)) me_int (fun _ _ => rfl)) me_int (fun _ _ => rfl)))))))
      (mss_one (ms_expr (me_meth PySem.F.plainAttrs_list PySem.F.slot_list_append PySem.F.type_list_append mm_append (mv 6) (ma_cons (me_tup (ma_cons (mv 11) (ma_cons (mv 13) ma_nil))) ma_nil))))) (mss_cons (ms_asg (me_ix (me_ix (mv 1) (me_ix (mv 10) me_int (fun _ _ => rfl)) (fun _ _ => rfl)) me_int (fun _ _ => rfl)) (mg_tup rfl (mgs_cons (gv 15 sc__law_spread.nd) (mgs_cons (gv 16 sc__law_spread.nd) mgs_nil))))
      (mss_cons (ms_expr (me_meth PySem.F.plainAttrs_list PySem.F.slot_list_append PySem.F.type_list_append mm_append (mv 5) (ma_cons (me_tup (ma_cons (me_bin (om_add .pure) (mv 11) (me_tup (ma_cons (me_ix (me_ix (mv 1) (me_ix (mv 10) me_int (fun _ _ => rfl)) (fun _ _ => rfl)) me_int (fun _ _ => rfl)) ma_nil))) (ma_cons (me_bin (om_add .pure) (mv 12) (me_tup (ma_cons (me_ix (mv 10) me_int (fun _ _ => rfl)) ma_nil))) (ma_cons (me_bin (om_mul .pure) (mv 13) (mv 15)) ma_nil)))) ma_nil)))
      (mss_cons (ms_expr (me_meth PySem.F.plainAttrs_list PySem.F.slot_list_append PySem.F.type_list_append mm_append (mv 5) (ma_cons (me_tup (ma_cons (mv 11) (ma_cons (me_bin (om_add .pure) (mv 12) (me_tup (ma_cons (me_ix (mv 10) me_int (fun _ _ => rfl)) ma_nil))) (ma_cons (me_bin (om_mul .pure) (mv 13) (me_bin om_sub (mv 16) (mv 15))) ma_nil)))) ma_nil)))
      (mss_one (ms_setLc .own (.nm 17) (own := [("one", 17)]) rfl sc__law_spread.nd (i := 5) rfl rfl (sw_true rfl rfl rfl (by decide +kernel)) (mi_seq (mv 5)) (blkOk_by (N := nm__law_spread) (sc := defScope s__law_spread) (by decide +kernel)) (fun _ _ _ _ _ => (cv 17 sc__law_spread.nd)) (fun _ _ _ _ _ => (pts_one (mt_cmp om_gt (me_ix (mv 17) me_int (fun _ _ => rfl)) me_int (nomark _)))) (fun _ _ _ _ _ => (mv 17)))))))))))))
      (mss_one (ms_ret (me_tup (ma_cons (mv 6) (ma_cons (mv 4) ma_nil)))))))))
/-! _law_reach -/
abbrev s__law_reach : Stmt := top 48
abbrev nm__law_reach : List Str := ["many", "ties", "start", "chances", "found", "base", "place", "reached", "weight"]
theorem sc__law_reach : FnScope ["many", "ties", "start", "chances", "found", "base", "place", "reached", "weight"] ["many", "ties", "start"] (defScope s__law_reach) := ⟨rfl, rfl, rfl, by decide +kernel, rfl, by decide +kernel, by decide +kernel⟩
def b__law_reach : MS :=
  (sSeq (sAsg (mCall m__law_spread (mCons (mVar 0) (mCons (mVar 1) (mCons (mVar 2) mNil)))) (mgTup 2 (mgCons (mgName 4) (mgCons (mgName 5) mgNil))))
  (sSeq (sAsg (mCall gTupOf (mCons (mLc .pure (miRange1 (mCons (mVar 0) mNil)) (.nm 6) tYesM (mCall m__law_low (mCons (mCall (gIs fun is => some (.int is.sum)) (mCons (mLc .pure (miSeq (mVar 4)) (.tp [7, 8]) (mTest (mBin (gIn false) (mVar 6) (mVar 7))) (mVar 8) [7, 8]) mNil)) (mCons (mVar 5) mNil))) [6]) mNil)) (mgName 3))
  (sRet (mTup (mCons (mVar 3) (mCons (mCall m__law_low (mCons (mCall (gIs fun is => some (.int is.sum)) (mCons (mLc .pure (miSeq (mVar 4)) (.tp [7, 8]) (mTest (mBin (gEq) (mCall gLen (mCons (mVar 7) mNil)) (mVar 0))) (mVar 8) [7, 8]) mNil)) (mCons (mVar 5) mNil))) mNil))))))
def m__law_reach : List W → Sto → Option (W × Sto) := callP (runPure 9 3 b__law_reach)
theorem ok__law_reach {P : Program} {w : World} {K : PySem.W.Frag} {mg : Str → Option Value} {base : Heap} (D : DefT K mg "_law_reach" s__law_reach) (h__law_spread : Has P w K mg base "_law_spread" s__law_spread ["many", "ties", "start"] 1 m__law_spread) (h__law_low : Has P w K mg base "_law_low" s__law_low ["top", "base"] 1 m__law_low) (z_range : mg "range" = none) (z_sum : mg "sum" = none) (z_tuple : mg "tuple" = none) (z_len : mg "len" = none) : Has P w K mg base "_law_reach" s__law_reach ["many", "ties", "start"] 2 m__law_reach :=
  has_pure (N := nm__law_reach) (ps := ["many", "ties", "start"]) (k := 1) (body := b__law_reach) D sc__law_reach (fun _ _ _ _ _ _ us hl => match us, hl with | [_, _, _], _ => rfl) (fun f cdv A outer s H E hr => (mss_cons (ms_asg (mh_call h__law_spread (hr.mono (by decide)) rfl (ma_cons (mv 0) (ma_cons (mv 1) (ma_cons (mv 2) ma_nil)))) (mg_tup rfl (mgs_cons (gv 4 sc__law_reach.nd) (mgs_cons (gv 5 sc__law_reach.nd) mgs_nil))))
      (mss_cons (ms_set 3 sc__law_reach.nd (me_callTy cm_tuple rfl z_tuple bb_tuple (ma_cons (me_lc .pure (.nm 6) (own := [("place", 6)]) rfl sc__law_reach.nd  (mi_range1 rfl z_range (ma_cons (mv 0) ma_nil)) (blkOk_by (N := nm__law_reach) (sc := defScope s__law_reach) (by decide +kernel)) (fun _ _ _ _ _ => (cv 6 sc__law_reach.nd)) (fun _ _ _ _ _ => mts_nil) (fun _ _ _ _ _ => (mh_call h__law_low (hr.mono (by decide)) rfl (ma_cons (me_callB (cm_sum rfl) rfl z_sum bb_sum (ma_cons (me_lc .pure (.tp [7, 8]) (own := [("reached", 7), ("weight", 8)]) rfl sc__law_reach.nd  (mi_seq (mv 4)) (blkOk_by (by rfl)) (fun _ _ _ _ _ => (pg_tup rfl (pgs_cons (cv 7 sc__law_reach.nd) (pgs_cons (cv 8 sc__law_reach.nd) pgs_nil)))) (fun _ _ _ _ _ => (pts_one (mt_cmp om_in (mv 6) (mv 7) (by rfl)))) (fun _ _ _ _ _ => (mv 8))) ma_nil)) (ma_cons (mv 5) ma_nil))))) ma_nil)))
      (mss_one (ms_ret (me_tup (ma_cons (mv 3) (ma_cons (mh_call h__law_low (hr.mono (by decide)) rfl (ma_cons (me_callB (cm_sum rfl) rfl z_sum bb_sum (ma_cons (me_lc .pure (.tp [7, 8]) (own := [("reached", 7), ("weight", 8)]) rfl sc__law_reach.nd  (mi_seq (mv 4)) (blkOk_by (N := nm__law_reach) (sc := defScope s__law_reach) (by decide +kernel)) (fun _ _ _ _ _ => (pg_tup rfl (pgs_cons (cv 7 sc__law_reach.nd) (pgs_cons (cv 8 sc__law_reach.nd) pgs_nil)))) (fun _ _ _ _ _ => (pts_one (mt_cmp (om_eq hr) (me_callB cm_len rfl z_len bb_len (ma_cons (mv 7) ma_nil)) (mv 0) (nomark _)))) (fun _ _ _ _ _ => (mv 8))) ma_nil)) (ma_cons (mv 5) ma_nil))) ma_nil))))))))
/-! _law_chance -/
abbrev s__law_chance : Stmt := top 49
abbrev nm__law_chance : List Str := ["box"]
theorem sc__law_chance : FnScope ["box"] ["box"] (defScope s__law_chance) := ⟨rfl, rfl, rfl, by decide +kernel, rfl, by decide +kernel, by decide +kernel⟩
def b__law_chance : MS :=
  (sRet (mCall m__law_pick (mCons (mVar 0) (mCons (mList .pure (mCons (mTup (mCons (mC (.int 0)) (mCons (mC (.int 1)) mNil))) (mCons (mTup (mCons (mC (.int 1)) (mCons (mC (.int 1)) mNil))) (mCons (mTup (mCons (mC (.int 1)) (mCons (mC (.int 2)) mNil))) (mCons (mTup (mCons (mC (.int 1)) (mCons (mC (.int 2)) mNil))) (mCons (mTup (mCons (mC (.int 1)) (mCons (mC (.int 3)) mNil))) (mCons (mTup (mCons (mC (.int 2)) (mCons (mC (.int 3)) mNil))) (mCons (mTup (mCons (mC (.int 1)) (mCons (mC (.int 4)) mNil))) (mCons (mTup (mCons (mC (.int 3)) (mCons (mC (.int 4)) mNil))) (mCons (mTup (mCons (mC (.int 5)) (mCons (mC (.int 6)) mNil))) (mCons (mTup (mCons (mC (.int 1)) (mCons (mC (.int 7)) mNil))) (mCons (mTup (mCons (mC (.int 9)) (mCons (mC (.int 10)) mNil))) mNil)))))))))))) mNil))))
def m__law_chance : List W → Sto → Option (W × Sto) := runDef 1 1 false b__law_chance
theorem ok__law_chance {P : Program} {w : World} {K : PySem.W.Frag} {mg : Str → Option Value} {base : Heap} (D : DefT K mg "_law_chance" s__law_chance) (h__law_pick : Has P w K mg base "_law_pick" s__law_pick ["box", "items"] 2 m__law_pick) : Has P w K mg base "_law_chance" s__law_chance ["box"] 3 m__law_chance :=
  has_def (N := nm__law_chance) (ps := ["box"]) (k := 2) (body := b__law_chance) D sc__law_chance (fun _ _ _ _ _ _ us hl => match us, hl with | [_], _ => rfl) (fun f cdv A outer s H E hr => (mss_one (ms_ret (mh_call h__law_pick (hr.mono (by decide)) rfl (ma_cons (mv 0) (ma_cons (me_list .pure (ma_cons (me_tup (ma_cons me_int (ma_cons me_int ma_nil))) (ma_cons (me_tup (ma_cons me_int (ma_cons me_int ma_nil))) (ma_cons (me_tup (ma_cons me_int (ma_cons me_int ma_nil))) (ma_cons (me_tup (ma_cons me_int (ma_cons me_int ma_nil))) (ma_cons (me_tup (ma_cons me_int (ma_cons me_int ma_nil))) (ma_cons (me_tup (ma_cons me_int (ma_cons me_int ma_nil))) (ma_cons (me_tup (ma_cons me_int (ma_cons me_int ma_nil))) (ma_cons (me_tup (ma_cons me_int (ma_cons me_int ma_nil))) (ma_cons (me_tup (ma_cons me_int (ma_cons me_int ma_nil))) (ma_cons (me_tup (ma_cons me_int (ma_cons me_int ma_nil))) (ma_cons (me_tup (ma_cons me_int (ma_cons me_int ma_nil))) ma_nil)))))))))))) ma_nil))))))
/-! _law_sure -/
abbrev s__law_sure : Stmt := top 50
abbrev nm__law_sure : List Str := ["box"]
theorem sc__law_sure : FnScope ["box"] ["box"] (defScope s__law_sure) := ⟨rfl, rfl, rfl, by decide +kernel, rfl, by decide +kernel, by decide +kernel⟩
def b__law_sure : MS :=
  (sRet (mCall m__law_pick (mCons (mVar 0) (mCons (mList .pure (mCons (mTup (mCons (mC (.int 1)) (mCons (mC (.int 1)) mNil))) (mCons (mTup (mCons (mC (.int 1)) (mCons (mC (.int 2)) mNil))) (mCons (mTup (mCons (mC (.int 2)) (mCons (mC (.int 3)) mNil))) (mCons (mTup (mCons (mC (.int 3)) (mCons (mC (.int 4)) mNil))) (mCons (mTup (mCons (mC (.int 5)) (mCons (mC (.int 6)) mNil))) (mCons (mTup (mCons (mC (.int 9)) (mCons (mC (.int 10)) mNil))) (mCons (mTup (mCons (mC (.int 1)) (mCons (mC (.int 2)) mNil))) mNil)))))))) mNil))))
def m__law_sure : List W → Sto → Option (W × Sto) := runDef 1 1 false b__law_sure
theorem ok__law_sure {P : Program} {w : World} {K : PySem.W.Frag} {mg : Str → Option Value} {base : Heap} (D : DefT K mg "_law_sure" s__law_sure) (h__law_pick : Has P w K mg base "_law_pick" s__law_pick ["box", "items"] 2 m__law_pick) : Has P w K mg base "_law_sure" s__law_sure ["box"] 3 m__law_sure :=
  has_def (N := nm__law_sure) (ps := ["box"]) (k := 2) (body := b__law_sure) D sc__law_sure (fun _ _ _ _ _ _ us hl => match us, hl with | [_], _ => rfl) (fun f cdv A outer s H E hr => (mss_one (ms_ret (mh_call h__law_pick (hr.mono (by decide)) rfl (ma_cons (mv 0) (ma_cons (me_list .pure (ma_cons (me_tup (ma_cons me_int (ma_cons me_int ma_nil))) (ma_cons (me_tup (ma_cons me_int (ma_cons me_int ma_nil))) (ma_cons (me_tup (ma_cons me_int (ma_cons me_int ma_nil))) (ma_cons (me_tup (ma_cons me_int (ma_cons me_int ma_nil))) (ma_cons (me_tup (ma_cons me_int (ma_cons me_int ma_nil))) (ma_cons (me_tup (ma_cons me_int (ma_cons me_int ma_nil))) (ma_cons (me_tup (ma_cons me_int (ma_cons me_int ma_nil))) ma_nil)))))))) ma_nil))))))
/-! _law_net -/
abbrev s__law_net : Stmt := top 51
abbrev nm__law_net : List Str := ["box", "way", "many", "ties", "k", "names", "again", "some", "a", "b", "chance"]
theorem sc__law_net : FnScope ["box", "way", "many", "ties", "k", "names", "again", "some", "a", "b", "chance"] ["box", "way"] (defScope s__law_net) := ⟨rfl, rfl, rfl, by decide +kernel, rfl, by decide +kernel, by decide +kernel⟩
def b__law_net : MS :=
  (sSeq (sAsg (mBin gIx (mList .pure (mCons (mBin (gAdd .pure) (mC (.int 2)) (mCall m__law_take (mCons (mVar 0) (mCons (mC (.int 5)) mNil)))) (mCons (mC (.int 10)) (mCons (mBin (gAdd .pure) (mC (.int 7)) (mCall m__law_take (mCons (mVar 0) (mCons (mC (.int 4)) mNil)))) (mCons (mBin (gAdd .pure) (mC (.int 6)) (mCall m__law_take (mCons (mVar 0) (mCons (mC (.int 5)) mNil)))) (mCons (mBin (gAdd .pure) (mC (.int 3)) (mCall m__law_take (mCons (mVar 0) (mCons (mC (.int 3)) mNil)))) mNil)))))) (mVar 1)) (mgName 2))
  (sSeq (sAsg (mList .own mNil) (mgName 3))
  (sSeq (sIf (mTest (mBin (gIn false) (mVar 1) (mTup (mCons (mC (.int 1)) (mCons (mC (.int 2)) mNil))))) (sAsg (mBin (gAdd .own) (mLc .pure (miRange1 (mCons (mBin (gInt iSub) (mVar 2) (mC (.int 1))) mNil)) (.nm 4) tYesM (mTup (mCons (mVar 4) (mCons (mBin (gAdd .pure) (mVar 4) (mC (.int 1))) (mCons (mCall m__law_sure (mCons (mVar 0) mNil)) mNil)))) [4]) (mIf (mTest (mBin (gEq) (mVar 1) (mC (.int 2)))) (mList .pure (mCons (mTup (mCons (mBin (gInt iSub) (mVar 2) (mC (.int 1))) (mCons (mC (.int 0)) (mCons (mCall m__law_sure (mCons (mVar 0) mNil)) mNil)))) mNil)) (mList .pure mNil))) (mgName 3)) sNil)
  (sSeq (sFor (miRange1 (mCons (mBin gIx (mList .pure (mCons (mBin (gAdd .pure) (mC (.int 1)) (mCall m__law_take (mCons (mVar 0) (mCons (mC (.int 9)) mNil)))) (mCons (mBin (gAdd .pure) (mC (.int 1)) (mCall m__law_take (mCons (mVar 0) (mCons (mC (.int 3)) mNil)))) (mCons (mCall m__law_take (mCons (mVar 0) (mCons (mC (.int 3)) mNil))) (mCons (mBin (gAdd .pure) (mC (.int 8)) (mCall m__law_take (mCons (mVar 0) (mCons (mC (.int 5)) mNil)))) (mCons (mBin (gAdd .pure) (mC (.int 9)) (mCall m__law_take (mCons (mVar 0) (mCons (mC (.int 4)) mNil)))) mNil)))))) (mVar 1)) mNil)) (mgName 4) (sSeq (sAsg (mAndV (mBin (gNe) (mVar 3) (mList .pure mNil)) (mBin (gEq) (mCall m__law_take (mCons (mVar 0) (mCons (mC (.int 4)) mNil))) (mC (.int 0)))) (mgName 6))
  (sSeq (sAsg (mSl .pure (mCall m__law_mixed (mCons (mVar 0) (mCons (mLstRg1 .pure (mVar 2)) mNil))) mNo (mSo (mC (.int 2)))) (mgTL 2 (mgCons (mgName 8) (mgCons (mgName 9) mgNil))))
  (sSeq (sAsg (mIf (mTest (mVar 6)) (mCall m__law_pick (mCons (mVar 0) (mCons (mVar 3) mNil))) (mTup (mCons (mVar 8) (mCons (mVar 9) (mCons (mCall m__law_chance (mCons (mVar 0) mNil)) mNil))))) (mgName 7))
  (sExpr (mMeth "list" gAppend (mVar 3) (mCons (mIf (mAnd (mTest (mVar 6)) (mTest (mBin (gEq) (mCall m__law_take (mCons (mVar 0) (mCons (mC (.int 2)) mNil))) (mC (.int 0))))) (mTup (mCons (mBin gIx (mVar 7) (mC (.int 1))) (mCons (mBin gIx (mVar 7) (mC (.int 0))) (mCons (mBin gIx (mVar 7) (mC (.int 2))) mNil)))) (mVar 7)) mNil)))))))
  (sSeq (sAsg (mCall m__law_mixed (mCons (mVar 0) (mCons (mLstRg1 .pure (mVar 2)) mNil))) (mgName 5))
  (sRet (mTup (mCons (mVar 2) (mCons (mLc .pure (miSeq (mSl .pure (mVar 3) mNo (mSo (mC (.int 12))))) (.tp [8, 9, 10]) tYesM (mTup (mCons (mBin gIx (mVar 5) (mVar 8)) (mCons (mBin gIx (mVar 5) (mVar 9)) (mCons (mVar 10) mNil)))) [8, 9, 10]) (mCons (mVar 5) mNil))))))))))
def m__law_net : List W → Sto → Option (W × Sto) := runDef 11 2 false b__law_net
theorem ok__law_net {P : Program} {w : World} {K : PySem.W.Frag} {mg : Str → Option Value} {base : Heap} (D : DefT K mg "_law_net" s__law_net) (h__law_take : Has P w K mg base "_law_take" s__law_take ["box", "many"] 1 m__law_take) (h__law_sure : Has P w K mg base "_law_sure" s__law_sure ["box"] 3 m__law_sure) (h__law_mixed : Has P w K mg base "_law_mixed" s__law_mixed ["box", "items"] 2 m__law_mixed) (h__law_pick : Has P w K mg base "_law_pick" s__law_pick ["box", "items"] 2 m__law_pick) (h__law_chance : Has P w K mg base "_law_chance" s__law_chance ["box"] 3 m__law_chance) (z_range : mg "range" = none) (z_list : mg "list" = none) : Has P w K mg base "_law_net" s__law_net ["box", "way"] 4 m__law_net :=
  has_def (N := nm__law_net) (ps := ["box", "way"]) (k := 3) (body := b__law_net) D sc__law_net (fun _ _ _ _ _ _ us hl => match us, hl with | [_, _], _ => rfl) (fun f cdv A outer s H E hr => (mss_cons (ms_set 2 sc__law_net.nd (me_ix (me_list .pure (ma_cons (me_bin (om_add .pure) me_int (mh_call h__law_take (hr.mono (by decide)) rfl (ma_cons (mv 0) (ma_cons me_int ma_nil)))) (ma_cons me_int (ma_cons (me_bin (om_add .pure) me_int (mh_call h__law_take (hr.mono (by decide)) rfl (ma_cons (mv 0) (ma_cons me_int ma_nil)))) (ma_cons (me_bin (om_add .pure) me_int (mh_call h__law_take (hr.mono (by decide)) rfl (ma_cons (mv 0) (ma_cons me_int ma_nil)))) (ma_cons (me_bin (om_add .pure) me_int (mh_call h__law_take (hr.mono (by decide)) rfl (ma_cons (mv 0) (ma_cons me_int ma_nil)))) ma_nil)))))) (mv 1) (fun _ _ => rfl)))
      (mss_cons (ms_set 3 sc__law_net.nd (me_list .own ma_nil))
      (mss_cons (ms_if (mt_cmp om_in (mv 1) (me_tup (ma_cons me_int (ma_cons me_int ma_nil))) (by rfl)) (mss_one (ms_set 3 sc__law_net.nd (me_bin (om_add .own) (me_lc .pure (.nm 4) (own := [("k", 4)]) rfl sc__law_net.nd  (mi_range1 rfl z_range (ma_cons (me_bin om_sub (mv 2) me_int) ma_nil)) (blkOk_by (N := nm__law_net) (sc := defScope s__law_net) (by decide +kernel)) (fun _ _ _ _ _ => (cv 4 sc__law_net.nd)) (fun _ _ _ _ _ => mts_nil) (fun _ _ _ _ _ => (me_tup (ma_cons (mv 4) (ma_cons (me_bin (om_add .pure) (mv 4) me_int) (ma_cons (mh_call h__law_sure (hr.mono (by decide)) rfl (ma_cons (mv 0) ma_nil)) ma_nil)))))) (me_if (mt_cmp (om_eq hr) (mv 1) me_int (nomark _)) (me_list .pure (ma_cons (me_tup (ma_cons (me_bin om_sub (mv 2) me_int) (ma_cons me_int (ma_cons (mh_call h__law_sure (hr.mono (by decide)) rfl (ma_cons (mv 0) ma_nil)) ma_nil)))) ma_nil)) (me_list .pure ma_nil))))) mss_nil)
      (mss_cons (ms_for PassesOwn.never rfl (mi_range1 rfl z_range (ma_cons (me_ix (me_list .pure (ma_cons (me_bin (om_add .pure) me_int (mh_call h__law_take (hr.mono (by decide)) rfl (ma_cons (mv 0) (ma_cons me_int ma_nil)))) (ma_cons (me_bin (om_add .pure) me_int (mh_call h__law_take (hr.mono (by decide)) rfl (ma_cons (mv 0) (ma_cons me_int ma_nil)))) (ma_cons (mh_call h__law_take (hr.mono (by decide)) rfl (ma_cons (mv 0) (ma_cons me_int ma_nil))) (ma_cons (me_bin (om_add .pure) me_int (mh_call h__law_take (hr.mono (by decide)) rfl (ma_cons (mv 0) (ma_cons me_int ma_nil)))) (ma_cons (me_bin (om_add .pure) me_int (mh_call h__law_take (hr.mono (by decide)) rfl (ma_cons (mv 0) (ma_cons me_int ma_nil)))) ma_nil)))))) (mv 1) (fun _ _ => rfl)) ma_nil)) (gv 4 sc__law_net.nd) (mss_cons (ms_set 6 sc__law_net.nd (me_and (me_cmp (om_ne hr) (mv 3) (me_list .pure ma_nil) (nomark _)) (me_one (me_cmp (om_eq hr) (mh_call h__law_take (hr.mono (by decide)) rfl (ma_cons (mv 0) (ma_cons me_int ma_nil))) me_int (nomark _)))))
      (mss_cons (ms_asg (me_sl .pure (mh_call h__law_mixed (hr.mono (by decide)) rfl (ma_cons (mv 0) (ma_cons (me_lstRg1 .pure rfl rfl z_list rfl z_range (mv 2)) ma_nil))) mo_no (mo_so me_int)) (mg_tl rfl (mgs_cons (gv 8 sc__law_net.nd) (mgs_cons (gv 9 sc__law_net.nd) mgs_nil))))
      (mss_cons (ms_set 7 sc__law_net.nd (me_if (mt_val (mv 6)) (mh_call h__law_pick (hr.mono (by decide)) rfl (ma_cons (mv 0) (ma_cons (mv 3) ma_nil))) (me_tup (ma_cons (mv 8) (ma_cons (mv 9) (ma_cons (mh_call h__law_chance (hr.mono (by decide)) rfl (ma_cons (mv 0) ma_nil)) ma_nil))))))
      (mss_one (ms_expr (me_meth PySem.F.plainAttrs_list PySem.F.slot_list_append PySem.F.type_list_append mm_append (mv 3) (ma_cons (me_if (PW.pt (mw_and (mt_val (mv 6)) (mw_and1 (mt_cmp (om_eq hr) (mh_call h__law_take (hr.mono (by decide)) rfl (ma_cons (mv 0) (ma_cons me_int ma_nil))) me_int (nomark _))))) (me_tup (ma_cons (me_ix (mv 7) me_int (fun _ _ => rfl)) (ma_cons (me_ix (mv 7) me_int (fun _ _ => rfl)) (ma_cons (me_ix (mv 7) me_int (fun _ _ => rfl)) ma_nil)))) (mv 7)) ma_nil))))))))
      (mss_cons (ms_set 5 sc__law_net.nd (mh_call h__law_mixed (hr.mono (by decide)) rfl (ma_cons (mv 0) (ma_cons (me_lstRg1 .pure rfl rfl z_list rfl z_range (mv 2)) ma_nil))))
      (mss_one (ms_ret (me_tup (ma_cons (mv 2) (ma_cons (me_lc .pure (.tp [8, 9, 10]) (own := [("a", 8), ("b", 9), ("chance", 10)]) rfl sc__law_net.nd  (mi_seq (me_sl .pure (mv 3) mo_no (mo_so me_int))) (blkOk_by (N := nm__law_net) (sc := defScope s__law_net) (by decide +kernel)) (fun _ _ _ _ _ => (pg_tup rfl (pgs_cons (cv 8 sc__law_net.nd) (pgs_cons (cv 9 sc__law_net.nd) (pgs_cons (cv 10 sc__law_net.nd) pgs_nil))))) (fun _ _ _ _ _ => mts_nil) (fun _ _ _ _ _ => (me_tup (ma_cons (me_ix (mv 5) (mv 8) (fun _ _ => rfl)) (ma_cons (me_ix (mv 5) (mv 9) (fun _ _ => rfl)) (ma_cons (mv 10) ma_nil)))))) (ma_cons (mv 5) ma_nil))))))))))))
/-! _law_told -/
abbrev s__law_told : Stmt := top 52
abbrev nm__law_told : List Str := ["net", "one", "named", "chances"]
theorem sc__law_told : FnScope ["net", "one", "named", "chances"] ["net", "one", "named"] (defScope s__law_told) := ⟨rfl, rfl, rfl, by decide +kernel, rfl, by decide +kernel, by decide +kernel⟩
def b__law_told : MS :=
  (sSeq (sAsg (mIf (mTest (mVar 2)) (mCallK m_reached_chances [1, 0] 0 2 mNil (mCons (mVar 1) (mCons (mVar 0) mNil))) (mCall m_reached_chances (mCons (mVar 0) (mCons (mVar 1) mNil)))) (mgName 3))
  (sRet (mTup (mCons (mVar 3) (mCons (mIf (mTest (mVar 2)) (mCall m_reach_all (mCons (mVar 0) (mCons (mVar 1) mNil))) (mCallK m_reach_all [1, 0] 0 2 mNil (mCons (mVar 1) (mCons (mVar 0) mNil)))) mNil)))))
def m__law_told : List W → Sto → Option (W × Sto) := callP (runPure 4 3 b__law_told)
theorem ok__law_told {P : Program} {w : World} {K : PySem.W.Frag} {mg : Str → Option Value} {base : Heap} (D : DefT K mg "_law_told" s__law_told) (h_reached_chances : Has P w K mg base "reached_chances" s_reached_chances ["net", "one"] 7 m_reached_chances) (h_reach_all : Has P w K mg base "reach_all" s_reach_all ["net", "one"] 7 m_reach_all) : Has P w K mg base "_law_told" s__law_told ["net", "one", "named"] 8 m__law_told :=
  has_pure (N := nm__law_told) (ps := ["net", "one", "named"]) (k := 7) (body := b__law_told) D sc__law_told (fun _ _ _ _ _ _ us hl => match us, hl with | [_, _, _], _ => rfl) (fun f cdv A outer s H E hr => (mss_cons (ms_set 3 sc__law_told.nd (me_if (mt_val (mv 2)) (mh_callK0 (b := 2) (is := [1, 0]) h_reached_chances (hr.mono (by decide)) rfl (by decide) (fun _ _ _ _ _ _ us ws h1 h2 => match us, ws, h1, h2 with | [], [_, _], _, _ => rfl) (mk_cons (mv 1) (mk_cons (mv 0) mk_nil))) (mh_call h_reached_chances (hr.mono (by decide)) rfl (ma_cons (mv 0) (ma_cons (mv 1) ma_nil)))))
      (mss_one (ms_ret (me_tup (ma_cons (mv 3) (ma_cons (me_if (mt_val (mv 2)) (mh_call h_reach_all (hr.mono (by decide)) rfl (ma_cons (mv 0) (ma_cons (mv 1) ma_nil))) (mh_callK0 (b := 2) (is := [1, 0]) h_reach_all (hr.mono (by decide)) rfl (by decide) (fun _ _ _ _ _ _ us ws h1 h2 => match us, ws, h1, h2 with | [], [_, _], _, _ => rfl) (mk_cons (mv 1) (mk_cons (mv 0) mk_nil)))) ma_nil)))))))
/-! _law_pair -/
abbrev s__law_pair : Stmt := top 53
abbrev nm__law_pair : List Str := ["net", "one", "other", "named"]
theorem sc__law_pair : FnScope ["net", "one", "other", "named"] ["net", "one", "other", "named"] (defScope s__law_pair) := ⟨rfl, rfl, rfl, by decide +kernel, rfl, by decide +kernel, by decide +kernel⟩
def b__law_pair : MS :=
  (sRet (mIf (mTest (mVar 3)) (mCallK m_reach_chance [2, 1, 0] 0 3 mNil (mCons (mVar 2) (mCons (mVar 1) (mCons (mVar 0) mNil)))) (mCall m_reach_chance (mCons (mVar 0) (mCons (mVar 1) (mCons (mVar 2) mNil))))))
def m__law_pair : List W → Sto → Option (W × Sto) := callP (runPure 4 4 b__law_pair)
theorem ok__law_pair {P : Program} {w : World} {K : PySem.W.Frag} {mg : Str → Option Value} {base : Heap} (D : DefT K mg "_law_pair" s__law_pair) (h_reach_chance : Has P w K mg base "reach_chance" s_reach_chance ["net", "one", "other"] 7 m_reach_chance) : Has P w K mg base "_law_pair" s__law_pair ["net", "one", "other", "named"] 8 m__law_pair :=
  has_pure (N := nm__law_pair) (ps := ["net", "one", "other", "named"]) (k := 7) (body := b__law_pair) D sc__law_pair (fun _ _ _ _ _ _ us hl => match us, hl with | [_, _, _, _], _ => rfl) (fun f cdv A outer s H E hr => (mss_one (ms_ret (me_if (mt_val (mv 3)) (mh_callK0 (b := 3) (is := [2, 1, 0]) h_reach_chance (hr.mono (by decide)) rfl (by decide) (fun _ _ _ _ _ _ us ws h1 h2 => match us, ws, h1, h2 with | [], [_, _, _], _, _ => rfl) (mk_cons (mv 2) (mk_cons (mv 1) (mk_cons (mv 0) mk_nil)))) (mh_call h_reach_chance (hr.mono (by decide)) rfl (ma_cons (mv 0) (ma_cons (mv 1) (ma_cons (mv 2) ma_nil))))))))
/-! _law_net_right -/
abbrev s__law_net_right : Stmt := top 54
abbrev nm__law_net_right : List Str := ["box", "many", "ties", "named", "one", "twins", "j", "merged", "net", "back", "due", "other", "k", "a", "b", "chance"]
theorem sc__law_net_right : FnScope ["box", "many", "ties", "named", "one", "twins", "j", "merged", "net", "back", "due", "other", "k", "a", "b", "chance"] ["box", "many", "ties", "named"] (defScope s__law_net_right) := ⟨rfl, rfl, rfl, by decide +kernel, rfl, by decide +kernel, by decide +kernel⟩
def b__law_net_right : MS :=
  (sSeq (sPar 8 9 (mCons (mTup (mCons (mVar 1) (mCons (mCall gTupOf (mCons (mCall (gSorted .pure) (mCons (mVar 2) mNil)) mNil)) mNil))) (mCons (mTup (mCons (mVar 1) (mCons (mCall gTupOf (mCons (mCall (gSorted .pure) (mCons (mLc .pure (miSeq (mVar 2)) (.tp [13, 14, 15]) tYesM (mTup (mCons (mVar 14) (mCons (mVar 13) (mCons (mVar 15) mNil)))) [13, 14, 15]) mNil)) mNil)) mNil))) mNil)))
  (sSeq (sFor (miSeq (mSl .pure (mCall m__law_mixed (mCons (mVar 0) (mCons (mLstRg1 .pure (mVar 1)) mNil))) mNo (mSo (mC (.int 2))))) (mgName 4) (sSeq (sAsg (mCall m__law_reach (mCons (mVar 1) (mCons (mVar 2) (mCons (mVar 4) mNil)))) (mgName 10))
  (sSeq (sIf (mNot (mTest (mCall (m__law_same 5) (mCons (mCall m__law_told (mCons (mVar 8) (mCons (mVar 4) (mCons (mVar 3) mNil)))) (mCons (mVar 10) mNil))))) (sRet (mC (.bl false))) sNil)
  (sFor (miSeq (mBin (gAdd .pure) (mSl .pure (mCall m__law_mixed (mCons (mVar 0) (mCons (mLstRg1 .pure (mVar 1)) mNil))) mNo (mSo (mC (.int 2)))) (mList .pure (mCons (mVar 4) mNil)))) (mgName 11) (sSeq (sIf (mNot (mTest (mCall (m__law_same 5) (mCons (mList .pure (mCons (mCall m__law_pair (mCons (mVar 8) (mCons (mVar 4) (mCons (mVar 11) (mCons (mNotV (mVar 3)) mNil))))) (mCons (mCall m__law_pair (mCons (mVar 9) (mCons (mVar 11) (mCons (mVar 4) (mCons (mVar 3) mNil))))) mNil))) (mCons (mList .pure (mCons (mBin gIx (mBin gIx (mVar 10) (mC (.int 0))) (mVar 11)) (mCons (mBin gIx (mBin gIx (mVar 10) (mC (.int 0))) (mVar 11)) mNil))) mNil))))) (sRet (mC (.bl false))) sNil)
  (sAsg (mNotV (mVar 3)) (mgName 3)))))))
  (sSeq (sAsg (mList .own mNil) (mgName 5))
  (sSeq (sFor (miRange1 (mCons (mCall gLen (mCons (mVar 2) mNil)) mNil)) (mgName 6) (sExpr (mMeth "list" gExtend (mVar 5) (mCons (mLc .pure (miRange2 (mCons (mBin (gAdd .pure) (mVar 6) (mC (.int 1))) (mCons (mCall gLen (mCons (mVar 2) mNil)) mNil))) (.nm 12) (mTest (mBin (gEq) (mSl .pure (mBin gIx (mVar 2) (mVar 12)) mNo (mSo (mC (.int 2)))) (mSl .pure (mBin gIx (mVar 2) (mVar 6)) mNo (mSo (mC (.int 2)))))) (mTup (mCons (mVar 6) (mCons (mVar 12) mNil))) [12]) mNil))))
  (sSeq (sIf (mTest (mBin (gEq) (mVar 5) (mList .pure mNil))) (sRet (mC (.bl true))) sNil)
  (sSeq (sAsg (mBin gIx (mVar 5) (mC (.int 0))) (mgTup 2 (mgCons (mgName 6) (mgCons (mgName 12) mgNil))))
  (sSeq (sAsg (mBin (gAdd .pure) (mBin (gAdd .pure) (mBin (gAdd .pure) (mSl .pure (mVar 2) mNo (mSo (mVar 6))) (mList .pure (mCons (mBin (gAdd .pure) (mSl .pure (mBin gIx (mVar 2) (mVar 6)) mNo (mSo (mC (.int 2)))) (mTup (mCons (mCall m__law_not (mCons (mCall m__law_mul (mCons (mCall m__law_not (mCons (mBin gIx (mBin gIx (mVar 2) (mVar 6)) (mC (.int 2))) mNil)) (mCons (mCall m__law_not (mCons (mBin gIx (mBin gIx (mVar 2) (mVar 12)) (mC (.int 2))) mNil)) mNil))) mNil)) mNil))) mNil))) (mSl .pure (mVar 2) (mSo (mBin (gAdd .pure) (mVar 6) (mC (.int 1)))) (mSo (mVar 12)))) (mSl .pure (mVar 2) (mSo (mBin (gAdd .pure) (mVar 12) (mC (.int 1)))) mNo)) (mgName 7))
  (sSeq (sAsg (mBin gIx (mBin gIx (mVar 2) (mVar 6)) (mC (.int 0))) (mgName 4))
  (sRet (mCall (m__law_same 5) (mCons (mCall m__law_told (mCons (mTup (mCons (mVar 1) (mCons (mCall gTupOf (mCons (mCall (gSorted .pure) (mCons (mVar 7) mNil)) mNil)) mNil))) (mCons (mVar 4) (mCons (mVar 3) mNil)))) (mCons (mCall m__law_told (mCons (mVar 8) (mCons (mVar 4) (mCons (mNotV (mVar 3)) mNil)))) mNil))))))))))))
def m__law_net_right : List W → Sto → Option (W × Sto) := runDef 16 4 false b__law_net_right
theorem ok__law_net_right {P : Program} {w : World} {K : PySem.W.Frag} {mg : Str → Option Value} {base : Heap} (D : DefT K mg "_law_net_right" s__law_net_right) (h__law_mixed : Has P w K mg base "_law_mixed" s__law_mixed ["box", "items"] 2 m__law_mixed) (h__law_reach : Has P w K mg base "_law_reach" s__law_reach ["many", "ties", "start"] 2 m__law_reach) (h__law_same : Has P w K mg base "_law_same" s__law_same ["told", "due"] 5 (m__law_same 5)) (h__law_told : Has P w K mg base "_law_told" s__law_told ["net", "one", "named"] 8 m__law_told) (h__law_pair : Has P w K mg base "_law_pair" s__law_pair ["net", "one", "other", "named"] 8 m__law_pair) (h__law_not : Has P w K mg base "_law_not" s__law_not ["one"] 1 m__law_not) (h__law_mul : Has P w K mg base "_law_mul" s__law_mul ["one", "other"] 2 m__law_mul) (z_sorted : mg "sorted" = none) (z_tuple : mg "tuple" = none) (z_list : mg "list" = none) (z_range : mg "range" = none) (z_len : mg "len" = none) : Has P w K mg base "_law_net_right" s__law_net_right ["box", "many", "ties", "named"] 9 m__law_net_right :=
  has_def (N := nm__law_net_right) (ps := ["box", "many", "ties", "named"]) (k := 8) (body := b__law_net_right) D sc__law_net_right (fun _ _ _ _ _ _ us hl => match us, hl with | [_, _, _, _], _ => rfl) (fun f cdv A outer s H E hr => (mss_cons (ms_par (ps_par (i := 8) (j := 9) rfl sc__law_net_right.nd rfl rfl (by decide) rfl rfl (ma_cons (me_tup (ma_cons (mv 1) (ma_cons (me_callTy cm_tuple rfl z_tuple bb_tuple (ma_cons (me_callB (cm_sorted .pure hr) rfl z_sorted bb_sorted (ma_cons (mv 2) ma_nil)) ma_nil)) ma_nil))) (ma_cons (me_tup (ma_cons (mv 1) (ma_cons (me_callTy cm_tuple rfl z_tuple bb_tuple (ma_cons (me_callB (cm_sorted .pure hr) rfl z_sorted bb_sorted (ma_cons (me_lc .pure (.tp [13, 14, 15]) (own := [("a", 13), ("b", 14), ("chance", 15)]) rfl sc__law_net_right.nd  (mi_seq (mv 2)) (blkOk_by (N := nm__law_net_right) (sc := defScope s__law_net_right) (by decide +kernel)) (fun _ _ _ _ _ => (pg_tup rfl (pgs_cons (cv 13 sc__law_net_right.nd) (pgs_cons (cv 14 sc__law_net_right.nd) (pgs_cons (cv 15 sc__law_net_right.nd) pgs_nil))))) (fun _ _ _ _ _ => mts_nil) (fun _ _ _ _ _ => (me_tup (ma_cons (mv 14) (ma_cons (mv 13) (ma_cons (mv 15) ma_nil)))))) ma_nil)) ma_nil)) ma_nil))) ma_nil)) (by rfl)))
      (mss_cons (ms_for PassesOwn.never rfl (mi_seq (me_sl .pure (mh_call h__law_mixed (hr.mono (by decide)) rfl (ma_cons (mv 0) (ma_cons (me_lstRg1 .pure rfl rfl z_list rfl z_range (mv 1)) ma_nil))) mo_no (mo_so me_int))) (gv 4 sc__law_net_right.nd) (mss_cons (ms_set 10 sc__law_net_right.nd (mh_call h__law_reach (hr.mono (by decide)) rfl (ma_cons (mv 1) (ma_cons (mv 2) (ma_cons (mv 4) ma_nil)))))
      (mss_cons (ms_if (mt_not (mt_val (mh_call h__law_same (hr.mono (by decide)) rfl (ma_cons (mh_call h__law_told (hr.mono (by decide)) rfl (ma_cons (mv 8) (ma_cons (mv 4) (ma_cons (mv 3) ma_nil)))) (ma_cons (mv 10) ma_nil))))) (mss_one (ms_ret me_bl)) mss_nil)
      (mss_one (ms_for PassesOwn.never rfl (mi_seq (me_bin (om_add .pure) (me_sl .pure (mh_call h__law_mixed (hr.mono (by decide)) rfl (ma_cons (mv 0) (ma_cons (me_lstRg1 .pure rfl rfl z_list rfl z_range (mv 1)) ma_nil))) mo_no (mo_so me_int)) (me_list .pure (ma_cons (mv 4) ma_nil)))) (gv 11 sc__law_net_right.nd) (mss_cons (ms_if (mt_not (mt_val (mh_call h__law_same (hr.mono (by decide)) rfl (ma_cons (me_list .pure (ma_cons (mh_call h__law_pair (hr.mono (by decide)) rfl (ma_cons (mv 8) (ma_cons (mv 4) (ma_cons (mv 11) (ma_cons (me_not (mv 3)) ma_nil))))) (ma_cons (mh_call h__law_pair (hr.mono (by decide)) rfl (ma_cons (mv 9) (ma_cons (mv 11) (ma_cons (mv 4) (ma_cons (mv 3) ma_nil))))) ma_nil))) (ma_cons (me_list .pure (ma_cons (me_ix (me_ix (mv 10) me_int (fun _ _ => rfl)) (mv 11) (fun _ _ => rfl)) (ma_cons (me_ix (me_ix (mv 10) me_int (fun _ _ => rfl)) (mv 11) (fun _ _ => rfl)) ma_nil))) ma_nil))))) (mss_one (ms_ret me_bl)) mss_nil)
      (mss_one (ms_set 3 sc__law_net_right.nd (me_not (mv 3))))))))))
      (mss_cons (ms_set 5 sc__law_net_right.nd (me_list .own ma_nil))
      (mss_cons (ms_for PassesOwn.never rfl (mi_range1 rfl z_range (ma_cons (me_callB cm_len rfl z_len bb_len (ma_cons (mv 2) ma_nil)) ma_nil)) (gv 6 sc__law_net_right.nd) (mss_one (ms_expr (me_meth PySem.F.plainAttrs_list PySem.F.slot_list_extend PySem.F.type_list_extend mm_extend (mv 5) (ma_cons (me_lc .pure (.nm 12) (own := [("k", 12)]) rfl sc__law_net_right.nd  (mi_range2 rfl z_range (ma_cons (me_bin (om_add .pure) (mv 6) me_int) (ma_cons (me_callB cm_len rfl z_len bb_len (ma_cons (mv 2) ma_nil)) ma_nil))) (blkOk_by (N := nm__law_net_right) (sc := defScope s__law_net_right) (by decide +kernel)) (fun _ _ _ _ _ => (cv 12 sc__law_net_right.nd)) (fun _ _ _ _ _ => (pts_one (mt_cmp (om_eq hr) (me_sl .pure (me_ix (mv 2) (mv 12) (fun _ _ => rfl)) mo_no (mo_so me_int)) (me_sl .pure (me_ix (mv 2) (mv 6) (fun _ _ => rfl)) mo_no (mo_so me_int)) (nomark _)))) (fun _ _ _ _ _ => (me_tup (ma_cons (mv 6) (ma_cons (mv 12) ma_nil))))) ma_nil)))))
      (mss_cons (ms_if (mt_cmp (om_eq hr) (mv 5) (me_list .pure ma_nil) (nomark _)) (mss_one (ms_ret me_bl)) mss_nil)
      (mss_cons (ms_asg (me_ix (mv 5) me_int (fun _ _ => rfl)) (mg_tup rfl (mgs_cons (gv 6 sc__law_net_right.nd) (mgs_cons (gv 12 sc__law_net_right.nd) mgs_nil))))
      (mss_cons (ms_set 7 sc__law_net_right.nd (me_bin (om_add .pure) (me_bin (om_add .pure) (me_bin (om_add .pure) (me_sl .pure (mv 2) mo_no (mo_so (mv 6))) (me_list .pure (ma_cons (me_bin (om_add .pure) (me_sl .pure (me_ix (mv 2) (mv 6) (fun _ _ => rfl)) mo_no (mo_so me_int)) (me_tup (ma_cons (mh_call h__law_not (hr.mono (by decide)) rfl (ma_cons (mh_call h__law_mul (hr.mono (by decide)) rfl (ma_cons (mh_call h__law_not (hr.mono (by decide)) rfl (ma_cons (me_ix (me_ix (mv 2) (mv 6) (fun _ _ => rfl)) me_int (fun _ _ => rfl)) ma_nil)) (ma_cons (mh_call h__law_not (hr.mono (by decide)) rfl (ma_cons (me_ix (me_ix (mv 2) (mv 12) (fun _ _ => rfl)) me_int (fun _ _ => rfl)) ma_nil)) ma_nil))) ma_nil)) ma_nil))) ma_nil))) (me_sl .pure (mv 2) (mo_so (me_bin (om_add .pure) (mv 6) me_int)) (mo_so (mv 12)))) (me_sl .pure (mv 2) (mo_so (me_bin (om_add .pure) (mv 12) me_int)) mo_no)))
      (mss_cons (ms_set 4 sc__law_net_right.nd (me_ix (me_ix (mv 2) (mv 6) (fun _ _ => rfl)) me_int (fun _ _ => rfl)))
      (mss_one (ms_ret (mh_call h__law_same (hr.mono (by decide)) rfl (ma_cons (mh_call h__law_told (hr.mono (by decide)) rfl (ma_cons (me_tup (ma_cons (mv 1) (ma_cons (me_callTy cm_tuple rfl z_tuple bb_tuple (ma_cons (me_callB (cm_sorted .pure hr) rfl z_sorted bb_sorted (ma_cons (mv 7) ma_nil)) ma_nil)) ma_nil))) (ma_cons (mv 4) (ma_cons (mv 3) ma_nil)))) (ma_cons (mh_call h__law_told (hr.mono (by decide)) rfl (ma_cons (mv 8) (ma_cons (mv 4) (ma_cons (me_not (mv 3)) ma_nil)))) ma_nil))))))))))))))
/-! _law_line_right -/
abbrev s__law_line_right : Stmt := top 55
abbrev nm__law_line_right : List Str := ["box", "named", "many", "row", "ring", "k", "whole", "told", "ends", "chances", "names", "at", "due"]
theorem sc__law_line_right : FnScope ["box", "named", "many", "row", "ring", "k", "whole", "told", "ends", "chances", "names", "at", "due"] ["box", "named"] (defScope s__law_line_right) := ⟨rfl, rfl, rfl, by decide +kernel, rfl, by decide +kernel, by decide +kernel⟩
def b__law_line_right : MS :=
  (sSeq (sAsg (mBin (gAdd .pure) (mC (.int 3)) (mCall m__law_take (mCons (mVar 0) (mCons (mC (.int 8)) mNil)))) (mgName 2))
  (sSeq (sAsg (mTup (mCons (mLc .pure (miRange1 (mCons (mVar 2) mNil)) (.nm 5) tYesM (mCall m__law_sure (mCons (mVar 0) mNil)) [5]) (mCons (mCall m__law_mixed (mCons (mVar 0) (mCons (mLstRg1 .pure (mVar 2)) mNil))) mNil))) (mgTup 2 (mgCons (mgName 9) (mgCons (mgName 10) mgNil))))
  (sSeq (sAsg (mTup (mCons (mVar 2) (mCons (mCall gTupOf (mCons (mCall (gSorted .pure) (mCons (mLc .pure (miRange1 (mCons (mBin (gInt iSub) (mVar 2) (mC (.int 1))) mNil)) (.nm 5) tYesM (mTup (mCons (mBin gIx (mVar 10) (mVar 5)) (mCons (mBin gIx (mVar 10) (mBin (gAdd .pure) (mVar 5) (mC (.int 1)))) (mCons (mBin gIx (mVar 9) (mVar 5)) mNil)))) [5]) mNil)) mNil)) mNil))) (mgName 3))
  (sSeq (sAsg (mTup (mCons (mVar 2) (mCons (mCall gTupOf (mCons (mCall (gSorted .pure) (mCons (mLc .pure (miRange1 (mCons (mVar 2) mNil)) (.nm 5) tYesM (mTup (mCons (mBin gIx (mVar 10) (mVar 5)) (mCons (mBin gIx (mVar 10) (mBin (gInt iMod) (mCall gToInt (mCons (mBin (gAdd .pure) (mVar 5) (mC (.int 1))) mNil)) (mVar 2))) (mCons (mBin gIx (mVar 9) (mVar 5)) mNil)))) [5]) mNil)) mNil)) mNil))) (mgName 4))
  (sSeq (sPar 11 6 (mCons (mCall m__law_take (mCons (mVar 0) (mCons (mVar 2) mNil))) (mCons (mTup (mCons (mC (.int 1)) (mCons (mC (.int 1)) mNil))) mNil)))
  (sSeq (sFor (miRange1 (mCons (mBin (gInt iSub) (mVar 2) (mC (.int 1))) mNil)) (mgName 5) (sSeq (sAsg (mCall m__law_mul (mCons (mVar 6) (mCons (mBin gIx (mVar 9) (mVar 5)) mNil))) (mgName 6))
  (sSeq (sAsg (mList .pure (mCons (mVar 6) (mCons (mVar 6) (mCons (mTup (mCons (mC (.int 0)) (mCons (mC (.int 1)) mNil))) mNil)))) (mgName 12))
  (sSeq (sAsg (mList .pure (mCons (mCall m__law_pair (mCons (mVar 3) (mCons (mBin gIx (mVar 10) (mC (.int 0))) (mCons (mBin gIx (mVar 10) (mBin (gAdd .pure) (mVar 5) (mC (.int 1)))) (mCons (mVar 1) mNil))))) (mCons (mCall m__law_pair (mCons (mVar 4) (mCons (mBin gIx (mVar 10) (mC (.int 0))) (mCons (mBin gIx (mVar 10) (mBin (gAdd .pure) (mVar 5) (mC (.int 1)))) (mCons (mNotV (mVar 1)) mNil))))) (mCons (mCall m__law_pair (mCons (mVar 3) (mCons (mBin gIx (mVar 10) (mBin (gAdd .pure) (mVar 5) (mC (.int 1)))) (mCons (mBin gIx (mVar 10) (mC (.int 0))) (mCons (mVar 1) mNil))))) mNil)))) (mgName 7))
  (sIf (mNot (mTest (mCall (m__law_same 5) (mCons (mVar 7) (mCons (mVar 12) mNil))))) (sRet (mC (.bl false))) sNil)))))
  (sSeq (sAsg (mTup (mCons (mC (.int 1)) (mCons (mC (.int 1)) mNil))) (mgName 6))
  (sSeq (sFor (miRange1 (mCons (mVar 2) mNil)) (mgName 5) (sAsg (mIf (mTest (mBin (gNe) (mBin (gInt iMod) (mCall gToInt (mCons (mBin (gAdd .pure) (mVar 5) (mC (.int 1))) mNil)) (mVar 2)) (mVar 11))) (mCall m__law_mul (mCons (mVar 6) (mCons (mBin gIx (mVar 9) (mVar 5)) mNil))) (mVar 6)) (mgName 6)))
  (sSeq (sAsg (mList .pure (mCons (mIf (mTest (mVar 1)) (mCall m_reach_all (mCons (mVar 4) (mCons (mBin gIx (mVar 10) (mVar 11)) mNil))) (mCallK m_reach_all [1, 0] 0 2 mNil (mCons (mBin gIx (mVar 10) (mVar 11)) (mCons (mVar 4) mNil)))) (mCons (mCall m_reach_all (mCons (mVar 3) (mCons (mBin gIx (mVar 10) (mC (.int 0))) mNil))) mNil))) (mgName 7))
  (sSeq (sAsg (mTup (mCons (mC (.int 1)) (mCons (mC (.int 1)) mNil))) (mgName 8))
  (sSeq (sFor (miRange1 (mCons (mBin (gInt iSub) (mVar 2) (mC (.int 1))) mNil)) (mgName 5) (sAsg (mCall m__law_mul (mCons (mVar 8) (mCons (mBin gIx (mVar 9) (mVar 5)) mNil))) (mgName 8)))
  (sRet (mCall (m__law_same 5) (mCons (mVar 7) (mCons (mList .pure (mCons (mVar 6) (mCons (mVar 8) mNil))) mNil)))))))))))))))
def m__law_line_right : List W → Sto → Option (W × Sto) := runDef 13 2 false b__law_line_right
theorem ok__law_line_right {P : Program} {w : World} {K : PySem.W.Frag} {mg : Str → Option Value} {base : Heap} (D : DefT K mg "_law_line_right" s__law_line_right) (h__law_take : Has P w K mg base "_law_take" s__law_take ["box", "many"] 1 m__law_take) (h__law_sure : Has P w K mg base "_law_sure" s__law_sure ["box"] 3 m__law_sure) (h__law_mixed : Has P w K mg base "_law_mixed" s__law_mixed ["box", "items"] 2 m__law_mixed) (h__law_mul : Has P w K mg base "_law_mul" s__law_mul ["one", "other"] 2 m__law_mul) (h__law_pair : Has P w K mg base "_law_pair" s__law_pair ["net", "one", "other", "named"] 8 m__law_pair) (h__law_same : Has P w K mg base "_law_same" s__law_same ["told", "due"] 5 (m__law_same 5)) (h_reach_all : Has P w K mg base "reach_all" s_reach_all ["net", "one"] 7 m_reach_all) (z_range : mg "range" = none) (z_list : mg "list" = none) (z_sorted : mg "sorted" = none) (z_tuple : mg "tuple" = none) (z_int : mg "int" = none) : Has P w K mg base "_law_line_right" s__law_line_right ["box", "named"] 9 m__law_line_right :=
  has_def (N := nm__law_line_right) (ps := ["box", "named"]) (k := 8) (body := b__law_line_right) D sc__law_line_right (fun _ _ _ _ _ _ us hl => match us, hl with | [_, _], _ => rfl) (fun f cdv A outer s H E hr => (mss_cons (ms_set 2 sc__law_line_right.nd (me_bin (om_add .pure) me_int (mh_call h__law_take (hr.mono (by decide)) rfl (ma_cons (mv 0) (ma_cons me_int ma_nil)))))
      (mss_cons (ms_asg (me_tup (ma_cons (me_lc .pure (.nm 5) (own := [("k", 5)]) rfl sc__law_line_right.nd  (mi_range1 rfl z_range (ma_cons (mv 2) ma_nil)) (blkOk_by (N := nm__law_line_right) (sc := defScope s__law_line_right) (by decide +kernel)) (fun _ _ _ _ _ => (cv 5 sc__law_line_right.nd)) (fun _ _ _ _ _ => mts_nil) (fun _ _ _ _ _ => (mh_call h__law_sure (hr.mono (by decide)) rfl (ma_cons (mv 0) ma_nil)))) (ma_cons (mh_call h__law_mixed (hr.mono (by decide)) rfl (ma_cons (mv 0) (ma_cons (me_lstRg1 .pure rfl rfl z_list rfl z_range (mv 2)) ma_nil))) ma_nil))) (mg_tup rfl (mgs_cons (gv 9 sc__law_line_right.nd) (mgs_cons (gv 10 sc__law_line_right.nd) mgs_nil))))
      (mss_cons (ms_set 3 sc__law_line_right.nd (me_tup (ma_cons (mv 2) (ma_cons (me_callTy cm_tuple rfl z_tuple bb_tuple (ma_cons (me_callB (cm_sorted .pure hr) rfl z_sorted bb_sorted (ma_cons (me_lc .pure (.nm 5) (own := [("k", 5)]) rfl sc__law_line_right.nd  (mi_range1 rfl z_range (ma_cons (me_bin om_sub (mv 2) me_int) ma_nil)) (blkOk_by (N := nm__law_line_right) (sc := defScope s__law_line_right) (by decide +kernel)) (fun _ _ _ _ _ => (cv 5 sc__law_line_right.nd)) (fun _ _ _ _ _ => mts_nil) (fun _ _ _ _ _ => (me_tup (ma_cons (me_ix (mv 10) (mv 5) (fun _ _ => rfl)) (ma_cons (me_ix (mv 10) (me_bin (om_add .pure) (mv 5) me_int) (fun _ _ => rfl)) (ma_cons (me_ix (mv 9) (mv 5) (fun _ _ => rfl)) ma_nil)))))) ma_nil)) ma_nil)) ma_nil))))
      (mss_cons (ms_set 4 sc__law_line_right.nd (me_tup (ma_cons (mv 2) (ma_cons (me_callTy cm_tuple rfl z_tuple bb_tuple (ma_cons (me_callB (cm_sorted .pure hr) rfl z_sorted bb_sorted (ma_cons (me_lc .pure (.nm 5) (own := [("k", 5)]) rfl sc__law_line_right.nd  (mi_range1 rfl z_range (ma_cons (mv 2) ma_nil)) (blkOk_by (N := nm__law_line_right) (sc := defScope s__law_line_right) (by decide +kernel)) (fun _ _ _ _ _ => (cv 5 sc__law_line_right.nd)) (fun _ _ _ _ _ => mts_nil) (fun _ _ _ _ _ => (me_tup (ma_cons (me_ix (mv 10) (mv 5) (fun _ _ => rfl)) (ma_cons (me_ix (mv 10) (me_bin om_mod (me_callTy cm_int rfl z_int bb_int (ma_cons (me_bin (om_add .pure) (mv 5) me_int) ma_nil)) (mv 2)) (fun _ _ => rfl)) (ma_cons (me_ix (mv 9) (mv 5) (fun _ _ => rfl)) ma_nil)))))) ma_nil)) ma_nil)) ma_nil))))
      (mss_cons (ms_par (ps_par (i := 11) (j := 6) rfl sc__law_line_right.nd rfl rfl (by decide) rfl rfl (ma_cons (mh_call h__law_take (hr.mono (by decide)) rfl (ma_cons (mv 0) (ma_cons (mv 2) ma_nil))) (ma_cons (me_tup (ma_cons me_int (ma_cons me_int ma_nil))) ma_nil)) (by rfl)))
      (mss_cons (ms_for PassesOwn.never rfl (mi_range1 rfl z_range (ma_cons (me_bin om_sub (mv 2) me_int) ma_nil)) (gv 5 sc__law_line_right.nd) (mss_cons (ms_set 6 sc__law_line_right.nd (mh_call h__law_mul (hr.mono (by decide)) rfl (ma_cons (mv 6) (ma_cons (me_ix (mv 9) (mv 5) (fun _ _ => rfl)) ma_nil))))
      (mss_cons (ms_set 12 sc__law_line_right.nd (me_list .pure (ma_cons (mv 6) (ma_cons (mv 6) (ma_cons (me_tup (ma_cons me_int (ma_cons me_int ma_nil))) ma_nil)))))
      (mss_cons (ms_set 7 sc__law_line_right.nd (me_list .pure (ma_cons (mh_call h__law_pair (hr.mono (by decide)) rfl (ma_cons (mv 3) (ma_cons (me_ix (mv 10) me_int (fun _ _ => rfl)) (ma_cons (me_ix (mv 10) (me_bin (om_add .pure) (mv 5) me_int) (fun _ _ => rfl)) (ma_cons (mv 1) ma_nil))))) (ma_cons (mh_call h__law_pair (hr.mono (by decide)) rfl (ma_cons (mv 4) (ma_cons (me_ix (mv 10) me_int (fun _ _ => rfl)) (ma_cons (me_ix (mv 10) (me_bin (om_add .pure) (mv 5) me_int) (fun _ _ => rfl)) (ma_cons (me_not (mv 1)) ma_nil))))) (ma_cons (mh_call h__law_pair (hr.mono (by decide)) rfl (ma_cons (mv 3) (ma_cons (me_ix (mv 10) (me_bin (om_add .pure) (mv 5) me_int) (fun _ _ => rfl)) (ma_cons (me_ix (mv 10) me_int (fun _ _ => rfl)) (ma_cons (mv 1) ma_nil))))) ma_nil)))))
      (mss_one (ms_if (mt_not (mt_val (mh_call h__law_same (hr.mono (by decide)) rfl (ma_cons (mv 7) (ma_cons (mv 12) ma_nil))))) (mss_one (ms_ret me_bl)) mss_nil))))))
      (mss_cons (ms_set 6 sc__law_line_right.nd (me_tup (ma_cons me_int (ma_cons me_int ma_nil))))
      (mss_cons (ms_for PassesOwn.never rfl (mi_range1 rfl z_range (ma_cons (mv 2) ma_nil)) (gv 5 sc__law_line_right.nd) (mss_one (ms_set 6 sc__law_line_right.nd (me_if (mt_cmp (om_ne hr) (me_bin om_mod (me_callTy cm_int rfl z_int bb_int (ma_cons (me_bin (om_add .pure) (mv 5) me_int) ma_nil)) (mv 2)) (mv 11) (nomark _)) (mh_call h__law_mul (hr.mono (by decide)) rfl (ma_cons (mv 6) (ma_cons (me_ix (mv 9) (mv 5) (fun _ _ => rfl)) ma_nil))) (mv 6)))))
      (mss_cons (ms_set 7 sc__law_line_right.nd (me_list .pure (ma_cons (me_if (mt_val (mv 1)) (mh_call h_reach_all (hr.mono (by decide)) rfl (ma_cons (mv 4) (ma_cons (me_ix (mv 10) (mv 11) (fun _ _ => rfl)) ma_nil))) (mh_callK0 (b := 2) (is := [1, 0]) h_reach_all (hr.mono (by decide)) rfl (by decide) (fun _ _ _ _ _ _ us ws h1 h2 => match us, ws, h1, h2 with | [], [_, _], _, _ => rfl) (mk_cons (me_ix (mv 10) (mv 11) (fun _ _ => rfl)) (mk_cons (mv 4) mk_nil)))) (ma_cons (mh_call h_reach_all (hr.mono (by decide)) rfl (ma_cons (mv 3) (ma_cons (me_ix (mv 10) me_int (fun _ _ => rfl)) ma_nil))) ma_nil))))
      (mss_cons (ms_set 8 sc__law_line_right.nd (me_tup (ma_cons me_int (ma_cons me_int ma_nil))))
      (mss_cons (ms_for PassesOwn.never rfl (mi_range1 rfl z_range (ma_cons (me_bin om_sub (mv 2) me_int) ma_nil)) (gv 5 sc__law_line_right.nd) (mss_one (ms_set 8 sc__law_line_right.nd (mh_call h__law_mul (hr.mono (by decide)) rfl (ma_cons (mv 8) (ma_cons (me_ix (mv 9) (mv 5) (fun _ _ => rfl)) ma_nil))))))
      (mss_one (ms_ret (mh_call h__law_same (hr.mono (by decide)) rfl (ma_cons (mv 7) (ma_cons (me_list .pure (ma_cons (mv 6) (ma_cons (mv 8) ma_nil))) ma_nil)))))))))))))))))
/-! _law_row_right -/
abbrev s__law_row_right : Stmt := top 56
abbrev nm__law_row_right : List Str := ["box", "named", "sizes", "parts", "many", "ties", "names", "net", "due", "cut", "one", "other", "a", "b", "chance", "k"]
theorem sc__law_row_right : FnScope ["box", "named", "sizes", "parts", "many", "ties", "names", "net", "due", "cut", "one", "other", "a", "b", "chance", "k"] ["box", "named"] (defScope s__law_row_right) := ⟨rfl, rfl, rfl, by decide +kernel, rfl, by decide +kernel, by decide +kernel⟩
def b__law_row_right : MS :=
  (sSeq (sAsg (mList .pure (mCons (mBin (gAdd .pure) (mC (.int 2)) (mCall m__law_take (mCons (mVar 0) (mCons (mC (.int 3)) mNil)))) (mCons (mBin (gAdd .pure) (mC (.int 2)) (mCall m__law_take (mCons (mVar 0) (mCons (mC (.int 3)) mNil)))) mNil))) (mgName 2))
  (sSeq (sAsg (mList .own mNil) (mgName 3))
  (sSeq (sFor (miSeq (mVar 2)) (mgName 4) (sExpr (mMeth "list" gAppend (mVar 3) (mCons (mLc .pure (miRange1 (mCons (mBin (gAdd .pure) (mC (.int 1)) (mCall m__law_take (mCons (mVar 0) (mCons (mC (.int 6)) mNil)))) mNil)) (.nm 15) tYesM (mBin (gAdd .pure) (mCall gTupOf (mCons (mSl .pure (mCall m__law_mixed (mCons (mVar 0) (mCons (mLstRg1 .pure (mVar 4)) mNil))) mNo (mSo (mC (.int 2)))) mNil)) (mTup (mCons (mCall m__law_chance (mCons (mVar 0) mNil)) mNil))) [15]) mNil))))
  (sSeq (sAsg (mTup (mCons (mBin (gInt iSub) (mBin gIx (mVar 2) (mC (.int 0))) (mC (.int 1))) (mCons (mBin (gInt iSub) (mCall (gIs fun is => some (.int is.sum)) (mCons (mVar 2) mNil)) (mC (.int 1))) mNil))) (mgTup 2 (mgCons (mgName 9) (mgCons (mgName 4) mgNil))))
  (sSeq (sAsg (mBin (gAdd .pure) (mBin gIx (mVar 3) (mC (.int 0))) (mLc .pure (miSeq (mBin gIx (mVar 3) (mC (.int 1)))) (.tp [12, 13, 14]) tYesM (mTup (mCons (mBin (gAdd .pure) (mVar 12) (mVar 9)) (mCons (mBin (gAdd .pure) (mVar 13) (mVar 9)) (mCons (mVar 14) mNil)))) [12, 13, 14])) (mgName 5))
  (sSeq (sAsg (mCall m__law_mixed (mCons (mVar 0) (mCons (mLstRg1 .pure (mVar 4)) mNil))) (mgName 6))
  (sSeq (sAsg (mTup (mCons (mVar 4) (mCons (mCall gTupOf (mCons (mCall (gSorted .pure) (mCons (mLc .pure (miSeq (mVar 5)) (.tp [12, 13, 14]) tYesM (mTup (mCons (mBin gIx (mVar 6) (mVar 12)) (mCons (mBin gIx (mVar 6) (mVar 13)) (mCons (mVar 14) mNil)))) [12, 13, 14]) mNil)) mNil)) mNil))) (mgName 7))
  (sSeq (sPar 10 11 (mCons (mCall m__law_take (mCons (mVar 0) (mCons (mBin (gAdd .pure) (mVar 9) (mC (.int 1))) mNil))) (mCons (mCall m__law_take (mCons (mVar 0) (mCons (mBin gIx (mVar 2) (mC (.int 1))) mNil))) mNil)))
  (sSeq (sAsg (mCall m__law_mul (mCons (mBin gIx (mBin gIx (mCall m__law_reach (mCons (mBin gIx (mVar 2) (mC (.int 0))) (mCons (mBin gIx (mVar 3) (mC (.int 0))) (mCons (mVar 10) mNil)))) (mC (.int 0))) (mVar 9)) (mCons (mBin gIx (mBin gIx (mCall m__law_reach (mCons (mBin gIx (mVar 2) (mC (.int 1))) (mCons (mBin gIx (mVar 3) (mC (.int 1))) (mCons (mC (.int 0)) mNil)))) (mC (.int 0))) (mVar 11)) mNil))) (mgName 8))
  (sRet (mCall (m__law_same 5) (mCons (mCall m__law_pair (mCons (mVar 7) (mCons (mBin gIx (mVar 6) (mVar 10)) (mCons (mBin gIx (mVar 6) (mBin (gAdd .pure) (mVar 11) (mVar 9))) (mCons (mVar 1) mNil))))) (mCons (mVar 8) mNil)))))))))))))
def m__law_row_right : List W → Sto → Option (W × Sto) := runDef 16 2 false b__law_row_right
theorem ok__law_row_right {P : Program} {w : World} {K : PySem.W.Frag} {mg : Str → Option Value} {base : Heap} (D : DefT K mg "_law_row_right" s__law_row_right) (h__law_take : Has P w K mg base "_law_take" s__law_take ["box", "many"] 1 m__law_take) (h__law_mixed : Has P w K mg base "_law_mixed" s__law_mixed ["box", "items"] 2 m__law_mixed) (h__law_chance : Has P w K mg base "_law_chance" s__law_chance ["box"] 3 m__law_chance) (h__law_mul : Has P w K mg base "_law_mul" s__law_mul ["one", "other"] 2 m__law_mul) (h__law_reach : Has P w K mg base "_law_reach" s__law_reach ["many", "ties", "start"] 2 m__law_reach) (h__law_same : Has P w K mg base "_law_same" s__law_same ["told", "due"] 5 (m__law_same 5)) (h__law_pair : Has P w K mg base "_law_pair" s__law_pair ["net", "one", "other", "named"] 8 m__law_pair) (z_range : mg "range" = none) (z_list : mg "list" = none) (z_tuple : mg "tuple" = none) (z_sum : mg "sum" = none) (z_sorted : mg "sorted" = none) : Has P w K mg base "_law_row_right" s__law_row_right ["box", "named"] 9 m__law_row_right :=
  has_def (N := nm__law_row_right) (ps := ["box", "named"]) (k := 8) (body := b__law_row_right) D sc__law_row_right (fun _ _ _ _ _ _ us hl => match us, hl with | [_, _], _ => rfl) (fun f cdv A outer s H E hr => (mss_cons (ms_set 2 sc__law_row_right.nd (me_list .pure (ma_cons (me_bin (om_add .pure) me_int (mh_call h__law_take (hr.mono (by decide)) rfl (ma_cons (mv 0) (ma_cons me_int ma_nil)))) (ma_cons (me_bin (om_add .pure) me_int (mh_call h__law_take (hr.mono (by decide)) rfl (ma_cons (mv 0) (ma_cons me_int ma_nil)))) ma_nil))))
      (mss_cons (ms_set 3 sc__law_row_right.nd (me_list .own ma_nil))
      (mss_cons (ms_for PassesOwn.never rfl (mi_seq (mv 2)) (gv 4 sc__law_row_right.nd) (mss_one (ms_expr (me_meth PySem.F.plainAttrs_list PySem.F.slot_list_append PySem.F.type_list_append mm_append (mv 3) (ma_cons (me_lc .pure (.nm 15) (own := [("k", 15)]) rfl sc__law_row_right.nd  (mi_range1 rfl z_range (ma_cons (me_bin (om_add .pure) me_int (mh_call h__law_take (hr.mono (by decide)) rfl (ma_cons (mv 0) (ma_cons me_int ma_nil)))) ma_nil)) (blkOk_by (N := nm__law_row_right) (sc := defScope s__law_row_right) (by decide +kernel)) (fun _ _ _ _ _ => (cv 15 sc__law_row_right.nd)) (fun _ _ _ _ _ => mts_nil) (fun _ _ _ _ _ => (me_bin (om_add .pure) (me_callTy cm_tuple rfl z_tuple bb_tuple (ma_cons (me_sl .pure (mh_call h__law_mixed (hr.mono (by decide)) rfl (ma_cons (mv 0) (ma_cons (me_lstRg1 .pure rfl rfl z_list rfl z_range (mv 4)) ma_nil))) mo_no (mo_so me_int)) ma_nil)) (me_tup (ma_cons (mh_call h__law_chance (hr.mono (by decide)) rfl (ma_cons (mv 0) ma_nil)) ma_nil))))) ma_nil)))))
      (mss_cons (ms_asg (me_tup (ma_cons (me_bin om_sub (me_ix (mv 2) me_int (fun _ _ => rfl)) me_int) (ma_cons (me_bin om_sub (me_callB (cm_sum rfl) rfl z_sum bb_sum (ma_cons (mv 2) ma_nil)) me_int) ma_nil))) (mg_tup rfl (mgs_cons (gv 9 sc__law_row_right.nd) (mgs_cons (gv 4 sc__law_row_right.nd) mgs_nil))))
      (mss_cons (ms_set 5 sc__law_row_right.nd (me_bin (om_add .pure) (me_ix (mv 3) me_int (fun _ _ => rfl)) (me_lc .pure (.tp [12, 13, 14]) (own := [("a", 12), ("b", 13), ("chance", 14)]) rfl sc__law_row_right.nd  (mi_seq (me_ix (mv 3) me_int (fun _ _ => rfl))) (blkOk_by (N := nm__law_row_right) (sc := defScope s__law_row_right) (by decide +kernel)) (fun _ _ _ _ _ => (pg_tup rfl (pgs_cons (cv 12 sc__law_row_right.nd) (pgs_cons (cv 13 sc__law_row_right.nd) (pgs_cons (cv 14 sc__law_row_right.nd) pgs_nil))))) (fun _ _ _ _ _ => mts_nil) (fun _ _ _ _ _ => (me_tup (ma_cons (me_bin (om_add .pure) (mv 12) (mv 9)) (ma_cons (me_bin (om_add .pure) (mv 13) (mv 9)) (ma_cons (mv 14) ma_nil))))))))
      (mss_cons (ms_set 6 sc__law_row_right.nd (mh_call h__law_mixed (hr.mono (by decide)) rfl (ma_cons (mv 0) (ma_cons (me_lstRg1 .pure rfl rfl z_list rfl z_range (mv 4)) ma_nil))))
      (mss_cons (ms_set 7 sc__law_row_right.nd (me_tup (ma_cons (mv 4) (ma_cons (me_callTy cm_tuple rfl z_tuple bb_tuple (ma_cons (me_callB (cm_sorted .pure hr) rfl z_sorted bb_sorted (ma_cons (me_lc .pure (.tp [12, 13, 14]) (own := [("a", 12), ("b", 13), ("chance", 14)]) rfl sc__law_row_right.nd  (mi_seq (mv 5)) (blkOk_by (N := nm__law_row_right) (sc := defScope s__law_row_right) (by decide +kernel)) (fun _ _ _ _ _ => (pg_tup rfl (pgs_cons (cv 12 sc__law_row_right.nd) (pgs_cons (cv 13 sc__law_row_right.nd) (pgs_cons (cv 14 sc__law_row_right.nd) pgs_nil))))) (fun _ _ _ _ _ => mts_nil) (fun _ _ _ _ _ => (me_tup (ma_cons (me_ix (mv 6) (mv 12) (fun _ _ => rfl)) (ma_cons (me_ix (mv 6) (mv 13) (fun _ _ => rfl)) (ma_cons (mv 14) ma_nil)))))) ma_nil)) ma_nil)) ma_nil))))
      (mss_cons (ms_par (ps_par (i := 10) (j := 11) rfl sc__law_row_right.nd rfl rfl (by decide) rfl rfl (ma_cons (mh_call h__law_take (hr.mono (by decide)) rfl (ma_cons (mv 0) (ma_cons (me_bin (om_add .pure) (mv 9) me_int) ma_nil))) (ma_cons (mh_call h__law_take (hr.mono (by decide)) rfl (ma_cons (mv 0) (ma_cons (me_ix (mv 2) me_int (fun _ _ => rfl)) ma_nil))) ma_nil)) (by rfl)))
      (mss_cons (ms_set 8 sc__law_row_right.nd (mh_call h__law_mul (hr.mono (by decide)) rfl (ma_cons (me_ix (me_ix (mh_call h__law_reach (hr.mono (by decide)) rfl (ma_cons (me_ix (mv 2) me_int (fun _ _ => rfl)) (ma_cons (me_ix (mv 3) me_int (fun _ _ => rfl)) (ma_cons (mv 10) ma_nil)))) me_int (fun _ _ => rfl)) (mv 9) (fun _ _ => rfl)) (ma_cons (me_ix (me_ix (mh_call h__law_reach (hr.mono (by decide)) rfl (ma_cons (me_ix (mv 2) me_int (fun _ _ => rfl)) (ma_cons (me_ix (mv 3) me_int (fun _ _ => rfl)) (ma_cons me_int ma_nil)))) me_int (fun _ _ => rfl)) (mv 11) (fun _ _ => rfl)) ma_nil))))
      (mss_one (ms_ret (mh_call h__law_same (hr.mono (by decide)) rfl (ma_cons (mh_call h__law_pair (hr.mono (by decide)) rfl (ma_cons (mv 7) (ma_cons (me_ix (mv 6) (mv 10) (fun _ _ => rfl)) (ma_cons (me_ix (mv 6) (me_bin (om_add .pure) (mv 11) (mv 9)) (fun _ _ => rfl)) (ma_cons (mv 1) ma_nil))))) (ma_cons (mv 8) ma_nil)))))))))))))))
/-! law -/
abbrev s_law : Stmt := top 57
abbrev nm_law : List Str := ["script", "k", "box", "named", "way", "many", "ties", "names"]
theorem sc_law : FnScope ["script", "k", "box", "named", "way", "many", "ties", "names"] ["script"] (defScope s_law) := ⟨rfl, rfl, rfl, by decide +kernel, rfl, by decide +kernel, by decide +kernel⟩
def b_law : MS :=
  (sSeq (sFor (miRange1 (mCons (mCall (gMax2) (mCons (mC (.int 2)) (mCons (mCall (gMin2) (mCons (mC (.int 3)) (mCons (mCall gLen (mCons (mVar 0) mNil)) mNil))) mNil))) mNil)) (mgName 1) (sSeq (sAsg (mCall m__law_box (mCons (mCall m__law_cell (mCons (mVar 0) (mCons (mVar 1) mNil))) mNil)) (mgName 2))
  (sSeq (sAsg (mBin (gEq) (mCall m__law_take (mCons (mVar 2) (mCons (mC (.int 2)) mNil))) (mC (.int 0))) (mgName 3))
  (sSeq (sFor (miSeq (mSl .pure (mCall m__law_mixed (mCons (mVar 2) (mCons (mList .pure (mCons (mC (.int 0)) (mCons (mC (.int 1)) (mCons (mC (.int 2)) (mCons (mC (.int 3)) (mCons (mC (.int 4)) mNil)))))) mNil))) mNo (mSo (mC (.int 1))))) (mgName 4) (sSeq (sAsg (mCall m__law_net (mCons (mVar 2) (mCons (mVar 4) mNil))) (mgTup 3 (mgCons (mgName 5) (mgCons (mgName 6) (mgCons (mgName 7) mgNil)))))
  (sSeq (sIf (mNot (mTest (mCall m__law_net_right (mCons (mVar 2) (mCons (mVar 5) (mCons (mVar 6) (mCons (mVar 3) mNil))))))) (sRet (mC (.bl false))) sNil)
  (sAsg (mNotV (mVar 3)) (mgName 3)))))
  (sIf (mOr (mNot (mTest (mCall m__law_line_right (mCons (mVar 2) (mCons (mVar 3) mNil))))) (mNot (mTest (mCall m__law_row_right (mCons (mVar 2) (mCons (mNotV (mVar 3)) mNil)))))) (sRet (mC (.bl false))) sNil)))))
  (sRet (mC (.bl true))))
def m_law : List W → Sto → Option (W × Sto) := runDef 8 1 false b_law
theorem ok_law {P : Program} {w : World} {K : PySem.W.Frag} {mg : Str → Option Value} {base : Heap} (D : DefT K mg "law" s_law) (h__law_box : Has P w K mg base "_law_box" s__law_box ["great"] 1 m__law_box) (h__law_cell : Has P w K mg base "_law_cell" s__law_cell ["script", "k"] 1 m__law_cell) (h__law_take : Has P w K mg base "_law_take" s__law_take ["box", "many"] 1 m__law_take) (h__law_mixed : Has P w K mg base "_law_mixed" s__law_mixed ["box", "items"] 2 m__law_mixed) (h__law_net : Has P w K mg base "_law_net" s__law_net ["box", "way"] 4 m__law_net) (h__law_net_right : Has P w K mg base "_law_net_right" s__law_net_right ["box", "many", "ties", "named"] 9 m__law_net_right) (h__law_line_right : Has P w K mg base "_law_line_right" s__law_line_right ["box", "named"] 9 m__law_line_right) (h__law_row_right : Has P w K mg base "_law_row_right" s__law_row_right ["box", "named"] 9 m__law_row_right) (z_len : mg "len" = none) (z_min : mg "min" = none) (z_max : mg "max" = none) (z_range : mg "range" = none) : Has P w K mg base "law" s_law ["script"] 10 m_law :=
  has_def (N := nm_law) (ps := ["script"]) (k := 9) (body := b_law) D sc_law (fun _ _ _ _ _ _ us hl => match us, hl with | [_], _ => rfl) (fun f cdv A outer s H E hr => (mss_cons (ms_for PassesOwn.never rfl (mi_range1 rfl z_range (ma_cons (me_callB (cm_max2 rfl) rfl z_max bb_max (ma_cons me_int (ma_cons (me_callB (cm_min2 rfl) rfl z_min bb_min (ma_cons me_int (ma_cons (me_callB cm_len rfl z_len bb_len (ma_cons (mv 0) ma_nil)) ma_nil))) ma_nil))) ma_nil)) (gv 1 sc_law.nd) (mss_cons (ms_set 2 sc_law.nd (mh_call h__law_box (hr.mono (by decide)) rfl (ma_cons (mh_call h__law_cell (hr.mono (by decide)) rfl (ma_cons (mv 0) (ma_cons (mv 1) ma_nil))) ma_nil)))
      (mss_cons (ms_set 3 sc_law.nd (me_cmp (om_eq hr) (mh_call h__law_take (hr.mono (by decide)) rfl (ma_cons (mv 2) (ma_cons me_int ma_nil))) me_int (nomark _)))
      (mss_cons (ms_for PassesOwn.never rfl (mi_seq (me_sl .pure (mh_call h__law_mixed (hr.mono (by decide)) rfl (ma_cons (mv 2) (ma_cons (me_list .pure (ma_cons me_int (ma_cons me_int (ma_cons me_int (ma_cons me_int (ma_cons me_int ma_nil)))))) ma_nil))) mo_no (mo_so me_int))) (gv 4 sc_law.nd) (mss_cons (ms_asg (mh_call h__law_net (hr.mono (by decide)) rfl (ma_cons (mv 2) (ma_cons (mv 4) ma_nil))) (mg_tup rfl (mgs_cons (gv 5 sc_law.nd) (mgs_cons (gv 6 sc_law.nd) (mgs_cons (gv 7 sc_law.nd) mgs_nil)))))
      (mss_cons (ms_if (mt_not (mt_val (mh_call h__law_net_right (hr.mono (by decide)) rfl (ma_cons (mv 2) (ma_cons (mv 5) (ma_cons (mv 6) (ma_cons (mv 3) ma_nil))))))) (mss_one (ms_ret me_bl)) mss_nil)
      (mss_one (ms_set 3 sc_law.nd (me_not (mv 3)))))))
      (mss_one (ms_if (PW.pt (mw_or (mt_not (mt_val (mh_call h__law_line_right (hr.mono (by decide)) rfl (ma_cons (mv 2) (ma_cons (mv 3) ma_nil))))) (mw_or1 (mt_not (mt_val (mh_call h__law_row_right (hr.mono (by decide)) rfl (ma_cons (mv 2) (ma_cons (me_not (mv 3)) ma_nil)))))))) (mss_one (ms_ret me_bl)) mss_nil))))))
      (mss_one (ms_ret me_bl))))
/-- what the top has made, all of it -/
structure Tops (K : PySem.W.Frag) (mg : Str → Option Value) : Prop where
  d_is_integer : DefT K mg "is_integer" s_is_integer
  d_is_within : DefT K mg "is_within" s_is_within
  d_is_index : DefT K mg "is_index" s_is_index
  d_is_tuple : DefT K mg "is_tuple" s_is_tuple
  d_in_order : DefT K mg "in_order" s_in_order
  d_common : DefT K mg "common" s_common
  d_reduced : DefT K mg "reduced" s_reduced
  d_is_fraction : DefT K mg "is_fraction" s_is_fraction
  d_is_chance : DefT K mg "is_chance" s_is_chance
  d_add : DefT K mg "add" s_add
  d_multiply : DefT K mg "multiply" s_multiply
  d_rest : DefT K mg "rest" s_rest
  d_sum_of : DefT K mg "sum_of" s_sum_of
  d_check_place : DefT K mg "check_place" s_check_place
  d_is_one_way_tie : DefT K mg "is_one_way_tie" s_is_one_way_tie
  d_is_one_way : DefT K mg "is_one_way" s_is_one_way
  d_check_one_way : DefT K mg "check_one_way" s_check_one_way
  d_without_one : DefT K mg "without_one" s_without_one
  d_reached_sets : DefT K mg "reached_sets" s_reached_sets
  d_reach_of : DefT K mg "reach_of" s_reach_of
  d_reach_chance : DefT K mg "reach_chance" s_reach_chance
  d_reached_chances : DefT K mg "reached_chances" s_reached_chances
  d_reach_all : DefT K mg "reach_all" s_reach_all
  d__law_cell : DefT K mg "_law_cell" s__law_cell
  d__law_box : DefT K mg "_law_box" s__law_box
  d__law_take : DefT K mg "_law_take" s__law_take
  d__law_mixed : DefT K mg "_law_mixed" s__law_mixed
  d__law_same : DefT K mg "_law_same" s__law_same
  d__law_pick : DefT K mg "_law_pick" s__law_pick
  d__law_low : DefT K mg "_law_low" s__law_low
  d__law_mul : DefT K mg "_law_mul" s__law_mul
  d__law_not : DefT K mg "_law_not" s__law_not
  d__law_spread : DefT K mg "_law_spread" s__law_spread
  d__law_reach : DefT K mg "_law_reach" s__law_reach
  d__law_chance : DefT K mg "_law_chance" s__law_chance
  d__law_sure : DefT K mg "_law_sure" s__law_sure
  d__law_net : DefT K mg "_law_net" s__law_net
  d__law_told : DefT K mg "_law_told" s__law_told
  d__law_pair : DefT K mg "_law_pair" s__law_pair
  d__law_net_right : DefT K mg "_law_net_right" s__law_net_right
  d__law_line_right : DefT K mg "_law_line_right" s__law_line_right
  d__law_row_right : DefT K mg "_law_row_right" s__law_row_right
  d_law : DefT K mg "law" s_law
  z_isinstance : mg "isinstance" = none
  z_int : mg "int" = none
  z_bool : mg "bool" = none
  z_tuple : mg "tuple" = none
  z_len : mg "len" = none
  z_range : mg "range" = none
  z_all : mg "all" = none
  z_abs : mg "abs" = none
  z_list : mg "list" = none
  z_sum : mg "sum" = none
  z_str : mg "str" = none
  z_sorted : mg "sorted" = none
  z_min : mg "min" = none
  z_max : mg "max" = none
  g_ZERO : Gc K mg "ZERO" (.tup [(.int 0), (.int 1)])
  g_MOST_PLACES : Gc K mg "MOST_PLACES" (.int 10)
  g_MOST_ONE_WAY_TIES : Gc K mg "MOST_ONE_WAY_TIES" (.int 12)
  g_ONE : Gc K mg "ONE" (.tup [(.int 1), (.int 1)])
theorem all_ok {P : Program} {w : World} {K : PySem.W.Frag} {mg : Str → Option Value} {base : Heap} (T : Tops K mg) : Has P w K mg base "law" s_law ["script"] 10 m_law := by
  have h_is_integer := ok_is_integer (P := P) (w := w) (base := base) T.d_is_integer T.z_isinstance T.z_int T.z_bool
  have h_is_within := ok_is_within (P := P) (w := w) (base := base) T.d_is_within h_is_integer
  have h_is_index := ok_is_index (P := P) (w := w) (base := base) T.d_is_index h_is_integer
  have h_is_tuple := ok_is_tuple (P := P) (w := w) (base := base) T.d_is_tuple T.z_isinstance T.z_tuple T.z_len
  have h_in_order := ok_in_order (P := P) (w := w) (base := base) T.d_in_order T.z_len T.z_range T.z_all
  have h_common := ok_common (P := P) (w := w) (base := base) T.d_common
  have h_reduced := ok_reduced (P := P) (w := w) (base := base) T.d_reduced h_common T.z_abs
  have h_is_fraction := ok_is_fraction (P := P) (w := w) (base := base) T.d_is_fraction h_is_tuple h_is_integer h_common T.z_abs
  have h_is_chance := ok_is_chance (P := P) (w := w) (base := base) T.d_is_chance h_is_fraction
  have h_add := ok_add (P := P) (w := w) (base := base) T.d_add h_reduced
  have h_multiply := ok_multiply (P := P) (w := w) (base := base) T.d_multiply h_reduced
  have h_rest := ok_rest (P := P) (w := w) (base := base) T.d_rest
  have h_sum_of := ok_sum_of (P := P) (w := w) (base := base) T.d_sum_of h_add T.g_ZERO
  have h_check_place := ok_check_place (P := P) (w := w) (base := base) T.d_check_place h_is_index
  have h_is_one_way_tie := ok_is_one_way_tie (P := P) (w := w) (base := base) T.d_is_one_way_tie h_is_tuple h_is_index h_is_chance
  have h_is_one_way := ok_is_one_way (P := P) (w := w) (base := base) T.d_is_one_way h_is_tuple h_is_within h_is_one_way_tie h_in_order T.z_isinstance T.z_tuple T.z_len T.z_all T.g_MOST_PLACES T.g_MOST_ONE_WAY_TIES
  have h_check_one_way := ok_check_one_way (P := P) (w := w) (base := base) T.d_check_one_way h_is_one_way
  have h_without_one := ok_without_one (P := P) (w := w) (base := base) T.d_without_one
  have h_reached_sets := ok_reached_sets (P := P) (w := w) (base := base) T.d_reached_sets h_without_one h_multiply h_rest T.z_list T.g_ONE T.g_ZERO
  have h_reach_of := ok_reach_of (P := P) (w := w) (base := base) T.d_reach_of h_sum_of h_reached_sets
  have h_reach_chance := ok_reach_chance (P := P) (w := w) (base := base) T.d_reach_chance h_check_one_way h_check_place h_reach_of
  have h_reached_chances := ok_reached_chances (P := P) (w := w) (base := base) T.d_reached_chances h_check_one_way h_check_place h_reach_of T.z_range T.z_tuple
  have h_reach_all := ok_reach_all (P := P) (w := w) (base := base) T.d_reach_all h_check_one_way h_check_place h_sum_of h_reached_sets T.z_len
  have h__law_cell := ok__law_cell (P := P) (w := w) (base := base) T.d__law_cell T.z_len T.z_sum T.z_int
  have h__law_box := ok__law_box (P := P) (w := w) (base := base) T.d__law_box T.z_abs T.z_int
  have h__law_take := ok__law_take (P := P) (w := w) (base := base) T.d__law_take T.z_int
  have h__law_mixed := ok__law_mixed (P := P) (w := w) (base := base) T.d__law_mixed h__law_take T.z_list T.z_len T.z_range
  have h__law_same := ok__law_same (P := P) (w := w) (base := base) T.d__law_same T.z_isinstance T.z_bool T.z_int T.z_str T.z_list T.z_tuple T.z_len T.z_range 5
  have h__law_pick := ok__law_pick (P := P) (w := w) (base := base) T.d__law_pick h__law_take T.z_len
  have h__law_low := ok__law_low (P := P) (w := w) (base := base) T.d__law_low T.z_abs T.z_int
  have h__law_mul := ok__law_mul (P := P) (w := w) (base := base) T.d__law_mul h__law_low
  have h__law_not := ok__law_not (P := P) (w := w) (base := base) T.d__law_not
  have h__law_spread := ok__law_spread (P := P) (w := w) (base := base) T.d__law_spread T.z_range T.z_len
  have h__law_reach := ok__law_reach (P := P) (w := w) (base := base) T.d__law_reach h__law_spread h__law_low T.z_range T.z_sum T.z_tuple T.z_len
  have h__law_chance := ok__law_chance (P := P) (w := w) (base := base) T.d__law_chance h__law_pick
  have h__law_sure := ok__law_sure (P := P) (w := w) (base := base) T.d__law_sure h__law_pick
  have h__law_net := ok__law_net (P := P) (w := w) (base := base) T.d__law_net h__law_take h__law_sure h__law_mixed h__law_pick h__law_chance T.z_range T.z_list
  have h__law_told := ok__law_told (P := P) (w := w) (base := base) T.d__law_told h_reached_chances h_reach_all
  have h__law_pair := ok__law_pair (P := P) (w := w) (base := base) T.d__law_pair h_reach_chance
  have h__law_net_right := ok__law_net_right (P := P) (w := w) (base := base) T.d__law_net_right h__law_mixed h__law_reach h__law_same h__law_told h__law_pair h__law_not h__law_mul T.z_sorted T.z_tuple T.z_list T.z_range T.z_len
  have h__law_line_right := ok__law_line_right (P := P) (w := w) (base := base) T.d__law_line_right h__law_take h__law_sure h__law_mixed h__law_mul h__law_pair h__law_same h_reach_all T.z_range T.z_list T.z_sorted T.z_tuple T.z_int
  have h__law_row_right := ok__law_row_right (P := P) (w := w) (base := base) T.d__law_row_right h__law_take h__law_mixed h__law_chance h__law_mul h__law_reach h__law_same h__law_pair T.z_range T.z_list T.z_tuple T.z_sum T.z_sorted
  exact ok_law T.d_law h__law_box h__law_cell h__law_take h__law_mixed h__law_net h__law_net_right h__law_line_right h__law_row_right T.z_len T.z_min T.z_max T.z_range
theorem end_ok {P : Program} {w : World} {K : PySem.W.Frag} {mg : Str → Option Value} (T : Tops K mg) : DefT K mg "law" s_law ∧ ∀ base : Heap, K.In base → base.Ns mainGlobals mg → Has P w K mg base "law" s_law ["script"] 10 m_law := ⟨T.d_law, fun _ _ _ => all_ok T⟩
end K50
end
section
set_option maxRecDepth 100000
namespace K50
open PySem L2 MW
theorem is_integer_int (i : Int) (S : Sto) : m_is_integer [.d (.int i)] S = some (.d (.bl true), S) := by
  simp -implicitDefEqProofs [m_is_integer, runPure, b_is_integer, startE, tyD, isT]
theorem is_tuple_tup (xs : List D) (n : Int) (S : Sto) : m_is_tuple [.d (.tup xs), .d (.int n)] S = some (.d (.bl (decide ((xs.length : Int) = n))), S) := by
  simp -implicitDefEqProofs [m_is_tuple, runPure, b_is_tuple, startE, tyD, isT]
theorem is_tuple_lst (xs : List D) (n : Int) (S : Sto) : m_is_tuple [.d (.lst xs), .d (.int n)] S = some (.d (.bl false), S) := by
  simp -implicitDefEqProofs [m_is_tuple, runPure, b_is_tuple, startE, tyD, isT]
theorem common_loop (n : Nat) (S : Sto) : ∀ (a b : Nat), b < n → whileM (mTest (mBin (gNe) (mVar 1) (mC (.int 0)))) (sPar 0 1 (mCons (mVar 1) (mCons (mBin (gInt iMod) (mVar 0) (mVar 1)) mNil))) n [some (.d (.int a)), some (.d (.int b))] S = some (.nx [some (.d (.int (Nat.gcd a b))), some (.d (.int 0))] S) := by
  induction n with
  | zero => intro a b h; omega
  | succ n ih =>
    intro a b h
    unfold whileM
    by_cases h0 : b = 0
    · subst h0
      simp
    · have h1 : 0 < (b : Int) := by omega
      have e : ((a : Int) % (b : Int)) = ((a % b : Nat) : Int) := by simp
      have hlt : a % b < b := Nat.mod_lt _ (by omega)
      simp [iMod_pos h1, h0]
      rw [e, ih b (a % b) (by omega), Nat.gcd_comm a b, Nat.gcd_rec b a, Nat.gcd_comm b]
theorem common_ok (a b : Nat) (S : Sto) : m_common [.d (.int a), .d (.int b)] S = some (.d (.int (Nat.gcd a b)), S) := by
  simp -implicitDefEqProofs [m_common, runPure, b_common, startE, sWhile, fuelAbs]
  rw [common_loop (b + 1) [] a b (by omega)]
  simp
theorem pow9000 {b : Int} {n : Nat} (h : b.natAbs < 2 ^ n) (hn : n ≤ 9000) : b.natAbs < 2 ^ 9000 := Nat.lt_of_lt_of_le h (Nat.pow_le_pow_right (by decide) hn)
theorem reduced_ok {a b : Int} {n : Nat} (hb : b ≠ 0) (h : b.natAbs < 2 ^ n) (hn : n ≤ 9000) (S : Sto) : m_reduced [.d (.int a), .d (.int b)] S = some (.d (fr (Rat.divInt a b)), S) := by
  obtain ⟨r1, r2, r3, r4⟩ := red_num (a := a) hb _ rfl
  have hl : ∀ x : Int, x ≠ 0 → x.natAbs ≤ b.natAbs → x.natAbs.log2 < 9000 := fun x hx hle => log2_lt (Nat.lt_of_le_of_lt hle (pow9000 h hn)) (by decide)
  have hg : (Nat.gcd a.natAbs b.natAbs) ≤ b.natAbs := Nat.le_of_dvd (by omega) (Nat.gcd_dvd_right _ _)
  have hgl : ((Nat.gcd a.natAbs b.natAbs : Nat) : Int).natAbs.log2 < 9000 := by
    rw [Int.natAbs_natCast]; exact log2_lt (Nat.lt_of_le_of_lt hg (pow9000 h hn)) (by decide)
  have gm : ∀ (S : Sto), gMul .pure (.d (.int (Nat.gcd a.natAbs b.natAbs : Nat))) (.d (.int (if b > 0 then 1 else -1))) S = some (.d (.int ((Nat.gcd a.natAbs b.natAbs : Int) * (if b > 0 then 1 else -1))), S) := fun S => by
    refine gMul_int ?_
    have : ((if b > 0 then 1 else -1 : Int)).natAbs.log2 = 0 := by split <;> decide
    omega
  have dv : ∀ x : Int, iDiv x ((Nat.gcd a.natAbs b.natAbs : Int) * (if b > 0 then 1 else -1)) = some (.int (x.fdiv ((Nat.gcd a.natAbs b.natAbs : Int) * (if b > 0 then 1 else -1)))) := fun x => by
    unfold iDiv
    rw [if_pos ⟨r3, hl _ r3 r4⟩]
  have hs : (2 : Nat) ≤ sizeLine := by decide
  have main : runPure 3 2 b_reduced [.int a, .int b] = some (fr (Rat.divInt a b)) := by
    rw [fr_eq, ← r1, ← r2]
    by_cases hp : 0 < b
    · have q := gm []
      simp only [gt_iff_lt, hp, if_true, Int.mul_one] at q dv ⊢
      simp [runPure, b_reduced, startE, common_ok, hp, q, dv, hs]
    · have q := gm []
      simp only [gt_iff_lt, hp, if_false, Int.mul_neg, Int.mul_one] at q dv ⊢
      simp [runPure, b_reduced, startE, common_ok, hp, q, dv, hs]
  show callP (runPure 3 2 b_reduced) [.d (.int a), .d (.int b)] S = _
  rw [callP_2, main]
  rfl
theorem is_fraction_pair (a b : Int) (S : Sto) : m_is_fraction [.d (.tup [.int a, .int b])] S = some (.d (.bl (decide (0 < b) && decide (Nat.gcd a.natAbs b.natAbs = 1))), S) := by
  by_cases h : 0 < b
  · have hb : b = ((b.natAbs : Nat) : Int) := by omega
    have hc := common_ok a.natAbs b.natAbs
    rw [← hb] at hc
    simp -implicitDefEqProofs [m_is_fraction, runPure, b_is_fraction, startE, is_tuple_tup, is_integer_int, hc, h]
    clear hc
    generalize Nat.gcd a.natAbs b.natAbs = g
    trace_state
    omega
  · simp -implicitDefEqProofs [m_is_fraction, runPure, b_is_fraction, startE, is_tuple_tup, is_integer_int, h]
theorem is_fraction_lst (xs : List D) (S : Sto) : m_is_fraction [.d (.lst xs)] S = some (.d (.bl false), S) := by
  simp -implicitDefEqProofs [m_is_fraction, runPure, b_is_fraction, startE, is_tuple_lst]
theorem is_fraction_fr (r : Rat) (S : Sto) : m_is_fraction [.d (fr r)] S = some (.d (.bl true), S) := by
  rw [fr_eq, is_fraction_pair]
  have h1 := r.den_pos
  have h2 : Nat.gcd r.num.natAbs r.den = 1 := r.reduced
  simp [h1, h2]
theorem is_chance_pair (a b : Int) (S : Sto) : m_is_chance [.d (.tup [.int a, .int b])] S = some (.d (.bl (decide (0 < b) && decide (Nat.gcd a.natAbs b.natAbs = 1) && decide (0 ≤ a) && decide (a ≤ b))), S) := by
  by_cases h : 0 < b <;> by_cases h2 : Nat.gcd a.natAbs b.natAbs = 1 <;> by_cases h3 : 0 ≤ a <;>
    simp -implicitDefEqProofs [m_is_chance, runPure, b_is_chance, startE, is_fraction_pair, h, h2, h3]
theorem nat_b {x : Nat} {n : Nat} (h : x < 2 ^ n) : ((x : Nat) : Int).natAbs < 2 ^ n := by rw [Int.natAbs_natCast]; exact h
theorem add_ok {r s : Rat} {n m : Nat} (hr : Sz r n) (hs : Sz s m) (h : n + m ≤ 9000) (h1 : 0 < n) (h2 : 0 < m) (S : Sto) : m_add [.d (fr r), .d (fr s)] S = some (.d (fr (r + s)), S) := by
  have q1 := gMul_b (mk := .pure) (S := ([] : Sto)) hr.num (nat_b hs.den) h1 h2 (by omega)
  have q2 := gMul_b (mk := .pure) (S := ([] : Sto)) hs.num (nat_b hr.den) h2 h1 (by omega)
  have q3 := gMul_b (mk := .pure) (S := ([] : Sto)) (nat_b hr.den) (nat_b hs.den) h1 h2 (by omega)
  have hd : (r.den : Int) * s.den ≠ 0 := by exact_mod_cast Nat.ne_of_gt (Nat.mul_pos r.den_pos s.den_pos)
  have hz : ((r.den : Int) * s.den).natAbs < 2 ^ (n + m) := by rw [Int.natAbs_mul]; exact pow_lt_mul (nat_b hr.den) (nat_b hs.den)
  have q4 := reduced_ok (a := r.num * s.den + s.num * r.den) hd hz h ([] : Sto)
  rw [← add_divInt] at q4
  simp -implicitDefEqProofs [m_add, runPure, b_add, startE, fr_eq, q1, q2, q3] at q4 ⊢
  simp [q4]
theorem multiply_ok {r s : Rat} {n m : Nat} (hr : Sz r n) (hs : Sz s m) (h : n + m ≤ 9000) (h1 : 0 < n) (h2 : 0 < m) (S : Sto) : m_multiply [.d (fr r), .d (fr s)] S = some (.d (fr (r * s)), S) := by
  have q1 := gMul_b (mk := .pure) (S := ([] : Sto)) hr.num hs.num h1 h2 (by omega)
  have q3 := gMul_b (mk := .pure) (S := ([] : Sto)) (nat_b hr.den) (nat_b hs.den) h1 h2 (by omega)
  have hd : (r.den : Int) * s.den ≠ 0 := by exact_mod_cast Nat.ne_of_gt (Nat.mul_pos r.den_pos s.den_pos)
  have hz : ((r.den : Int) * s.den).natAbs < 2 ^ (n + m) := by rw [Int.natAbs_mul]; exact pow_lt_mul (nat_b hr.den) (nat_b hs.den)
  have q4 := reduced_ok (a := r.num * s.num) hd hz h ([] : Sto)
  rw [← mul_divInt] at q4
  simp -implicitDefEqProofs [m_multiply, runPure, b_multiply, startE, fr_eq, q1, q3] at q4 ⊢
  simp [q4]
theorem num_ne {s : Rat} (h : s ≠ 0) : s.num ≠ 0 := fun z => h (Rat.num_eq_zero.mp z)
theorem eqv_fr (r s : Rat) : D.eqv (fr r) (fr s) = decide (r = s) := by
  have e : D.eqv (fr r) (fr s) = (decide (r.num = s.num) && decide ((r.den : Int) = s.den)) := by
    show ((r.num == s.num) && (((r.den : Int) == s.den) && true)) = _
    rw [Bool.and_true]
    rfl
  rw [e, ← Bool.decide_and]
  exact decide_eq_decide.mpr ⟨fun h => Rat.ext h.1 (by exact_mod_cast h.2), fun h => by rw [h]; exact ⟨rfl, rfl⟩⟩
theorem shp_fr (r : Rat) : D.shp (fr r) = true := rfl
theorem gEq_fr (r s : Rat) (S : Sto) : gEq (.d (fr r)) (.d (fr s)) S = some (.d (.bl (decide (r = s))), S) := by rw [gEq_d (shp_fr r) (shp_fr s), eqv_fr]
theorem law_same_refl (n : Nat) : ∀ (x : D) (S : Sto), okD n x → m__law_same n [.d x, .d x] S = some (.d (.bl true), S) := by
  induction n with
  | zero => intro x S h; exact h.elim
  | succ n ih =>
    intro x S h
    have seq : ∀ xs : List D, xs.length ≤ 100000 → (∀ x ∈ xs, okD n x) → ∀ (w : List D → D), (∀ ys, W.seq [] (.d (w ys)) = some ys) → (∀ ys (i : Int), gIx (.d (w ys)) (.d (.int i)) [] = (atI ys i).bind fun z => some (.d z, [])) → (∀ ys, gLen [.d (w ys)] [] = some (.d (.int ys.length), [])) →
        mLc .pure (miRange1 (mCons (mCall gLen (mCons (mVar 1) mNil)) mNil)) (.nm 2) (mNot (mTest (mCall (m__law_same n) (mCons (mBin gIx (mVar 0) (mVar 2)) (mCons (mBin gIx (mVar 1) (mVar 2)) mNil))))) (mVar 2) [2] [some (.d (w xs)), some (.d (w xs)), none] [] = some (.d (.lst []), []) := by
      intro xs hl hx w hw hix hlen
      have hr : miRange1 (mCons (mCall gLen (mCons (mVar 1) mNil)) mNil) [some (.d (w xs)), some (.d (w xs)), none] [] = some (⟨upFrom 0 xs.length, none⟩, []) := by
        have := miRange1_run (f := mCall gLen (mCons (mVar 1) mNil)) (env := [some (.d (w xs)), some (.d (w xs)), none]) (S := []) (S1 := []) (j := xs.length) (by simp [hlen]) (by omega) (by omega)
        simpa using this
      rw [mLc_pure (by decide) hr rfl (fun _ => false) (fun x => x)]
      · simp
      · intro y hy
        obtain ⟨i, hi, rfl⟩ := upFrom_mem hy
        refine ⟨[some (.d (w xs)), some (.d (w xs)), some (.d (.int (0 + i)))], rfl, ?_, by simp⟩
        have hg : xs[i]? = some xs[i] := by simp [hi]
        have hs := ih xs[i] [] (hx _ (List.getElem_mem hi))
        simp [hix, MW.atI_nat, hg, hs]
      · rw [upFrom_length]
        rw [sizeLine_eq]; omega
    cases x with
    | non => simp -implicitDefEqProofs [m__law_same, runPure, b__law_same, startE, tyD, isT]
    | bl b => cases b <;> simp -implicitDefEqProofs [m__law_same, runPure, b__law_same, startE, tyD, isT]
    | int i => simp -implicitDefEqProofs [m__law_same, runPure, b__law_same, startE, tyD, isT]
    | str _ => exact h.elim
    | tup xs =>
      have := seq xs h.1 h.2 .tup (fun _ => rfl) (fun _ _ => rfl) (fun _ => rfl)
      simp -implicitDefEqProofs [m__law_same, runPure, b__law_same, startE, tyD, isT, this]
    | lst xs =>
      have := seq xs h.1 h.2 .lst (fun _ => rfl) (fun _ _ => rfl) (fun _ => rfl)
      simp -implicitDefEqProofs [m__law_same, runPure, b__law_same, startE, tyD, isT, this]
theorem low_loop (n : Nat) (S : Sto) (x y : Option W) : ∀ (a b : Nat), b < n → whileM (mTest (mBin (gNe) (mVar 3) (mC (.int 0)))) (sPar 2 3 (mCons (mVar 3) (mCons (mBin (gInt iMod) (mCall gToInt (mCons (mVar 2) mNil)) (mVar 3)) mNil))) n [x, y, some (.d (.int a)), some (.d (.int b))] S = some (.nx [x, y, some (.d (.int (Nat.gcd a b))), some (.d (.int 0))] S) := by
  induction n with
  | zero => intro a b h; omega
  | succ n ih =>
    intro a b h
    unfold whileM
    by_cases h0 : b = 0
    · subst h0
      simp
    · have h1 : 0 < (b : Int) := by omega
      have e : ((a : Int) % (b : Int)) = ((a % b : Nat) : Int) := by simp
      have hlt : a % b < b := Nat.mod_lt _ (by omega)
      simp [iMod_pos h1, h0]
      rw [e, ih b (a % b) (by omega), Nat.gcd_comm a b, Nat.gcd_rec b a, Nat.gcd_comm b]
theorem law_low_ok {a b : Int} {n : Nat} (hb : 0 < b) (h : b.natAbs < 2 ^ n) (hn : n ≤ 9000) (S : Sto) : m__law_low [.d (.int a), .d (.int b)] S = some (.d (fr (Rat.divInt a b)), S) := by
  have hgp : 0 < Nat.gcd a.natAbs b.natAbs := Nat.gcd_pos_of_pos_right _ (by omega)
  have hg : (Nat.gcd a.natAbs b.natAbs) ≤ b.natAbs := Nat.le_of_dvd (by omega) (Nat.gcd_dvd_right _ _)
  have hg9 : ((Nat.gcd a.natAbs b.natAbs : Nat) : Int).natAbs < 2 ^ 9000 := by
    rw [Int.natAbs_natCast]; exact Nat.lt_of_le_of_lt hg (pow9000 h hn)
  have dv : ∀ x : Int, iDiv x ((Nat.gcd a.natAbs b.natAbs : Nat) : Int) = some (.int (x / ((Nat.gcd a.natAbs b.natAbs : Nat) : Int))) := fun x => iDiv_b (by omega) hg9 (by decide) (Nat.le_refl _)
  have hs : (2 : Nat) ≤ sizeLine := by decide
  have e : Nat.gcd a.natAbs b.natAbs = b.gcd a := by rw [Int.gcd_eq_natAbs_gcd_natAbs, Nat.gcd_comm]
  have main : runPure 4 2 b__law_low [.int a, .int b] = some (fr (Rat.divInt a b)) := by
    rw [fr_eq, Rat.num_divInt, Rat.den_divInt, if_neg (by omega), ← e]
    have h2 : (b.natAbs : Int) = b := by omega
    have hl := low_loop (b.natAbs + 1) [] (some (.d (.int a))) (some (.d (.int b))) a.natAbs b.natAbs (by omega)
    have hnb : ((b.natAbs / Nat.gcd a.natAbs b.natAbs : Nat) : Int) = (b.natAbs : Int) / ((Nat.gcd a.natAbs b.natAbs : Nat) : Int) := by simp
    rw [h2] at hl
    rw [hnb, h2, Int.sign_eq_one_of_pos hb, Int.one_mul]
    simp [runPure, b__law_low, startE, sWhile, fuelAbs, hl, dv, hs]
  show callP (runPure 4 2 b__law_low) [.d (.int a), .d (.int b)] S = _
  rw [callP_2, main]
  rfl
theorem pow_fits {x a b : Int} (h0 : 0 ≤ x) (h : x ≤ a) (hb : a < b) : x.natAbs < b.natAbs := by omega
theorem take_ok {S : Sto} {n c : Nat} {many : Int} (hB : Bx S n c) (hc : c < 1000000) (h0 : 0 < many) (h1 : many < 1073741824) :
    ∃ r o, m__law_take [.ref n, .d (.int many)] S = some (.d (.int r), S.set n o) ∧ 0 ≤ r ∧ r < many ∧ Bx (S.set n o) n (c + 1) := by
  have hl := hB.lt
  obtain ⟨b0, fl, sd, c', h2, h3, h4, h5, h6, h7⟩ := hB
  have hm : iDiv b0 many = some (.int (b0 / many)) := iDiv_b (a := 30) h0 (by omega) (by decide) (by decide)
  by_cases hf : fl = true ∧ 0 < b0
  · refine ⟨b0 % many, .lst [.int (b0 / many), .bl fl, .int sd, .int c'], ?_, Int.emod_nonneg _ (by omega), Int.emod_lt_of_pos _ h0, b0 / many, fl, sd, c', get_set hl, Int.ediv_nonneg h3 (by omega), h4, h5, h6, by omega⟩
    simp -implicitDefEqProofs [m__law_take, runDef, b__law_take, startE, gIx_ref h2, hf.1, hf.2, iMod_pos h0, hm, h2, ixN, fin]
  · have t0 : 0 ≤ sd + 15486407 * (c' + 1) + 179425261 := by omega
    have t1 : (sd + 15486407 * (c' + 1) + 179425261).natAbs < 2 ^ 64 := by omega
    have p5 : iPow (sd + 15486407 * (c' + 1) + 179425261) 5 = some (.int ((sd + 15486407 * (c' + 1) + 179425261) ^ 5)) := iPow_b (n := 5) (by decide) t1
    have m1 := iMod_pos (i := (sd + 15486407 * (c' + 1) + 179425261) ^ 5) (j := 2147483647) (by decide)
    have u0 := Int.emod_nonneg ((sd + 15486407 * (c' + 1) + 179425261) ^ 5) (b := 2147483647) (by decide)
    have u1 := Int.emod_lt_of_pos ((sd + 15486407 * (c' + 1) + 179425261) ^ 5) (b := 2147483647) (by decide)
    generalize hM : (sd + 15486407 * (c' + 1) + 179425261) ^ 5 % 2147483647 = mx at m1 u0 u1
    have t2 : (mx * 48271 + 9511 * (c' + 1)).natAbs < 2 ^ 64 := by omega
    have p3 : iPow (mx * 48271 + 9511 * (c' + 1)) 3 = some (.int ((mx * 48271 + 9511 * (c' + 1)) ^ 3)) := iPow_b (n := 3) (by decide) t2
    have m2 := iMod_pos (i := (mx * 48271 + 9511 * (c' + 1)) ^ 3) (j := 2147483587) (by decide)
    generalize (mx * 48271 + 9511 * (c' + 1)) ^ 3 % 2147483587 = my at m2
    have d1 : iDiv my 64 = some (.int (my / 64)) := iDiv_b (a := 7) (by decide) (by decide) (by decide) (by decide)
    have g1 : ∀ S : Sto, gMul .pure (.d (.int 15486407)) (.d (.int (c' + 1))) S = some (.d (.int (15486407 * (c' + 1))), S) := fun S => gMul_b (a := 24) (b := 24) (by decide) (by omega) (by decide) (by decide) (by decide)
    have g2 : ∀ S : Sto, gMul .pure (.d (.int mx)) (.d (.int 48271)) S = some (.d (.int (mx * 48271)), S) := fun S => gMul_b (a := 32) (b := 24) (by omega) (by decide) (by decide) (by decide) (by decide)
    have g3 : ∀ S : Sto, gMul .pure (.d (.int 9511)) (.d (.int (c' + 1))) S = some (.d (.int (9511 * (c' + 1))), S) := fun S => gMul_b (a := 24) (b := 24) (by decide) (by omega) (by decide) (by decide) (by decide)
    have gs := get_set (o := Ob.lst [.int b0, .bl fl, .int sd, .int (c' + 1)]) hl
    refine ⟨my / 64 % many, .lst [.int b0, .bl fl, .int sd, .int (c' + 1)], ?_, Int.emod_nonneg _ (by omega), Int.emod_lt_of_pos _ h0, b0, fl, sd, c' + 1, gs, h3, h4, h5, by omega, by omega⟩
    have hf' : ¬ (fl = true ∧ 0 < b0) := hf
    cases fl with
    | false => simp -implicitDefEqProofs [m__law_take, runDef, b__law_take, startE, gIx_ref h2, iMod_pos h0, h2, ixN, fin, gIx_ref gs, g1, g2, g3, p5, p3, m1, m2, d1]
    | true =>
      have hb : ¬ 0 < b0 := fun z => hf' ⟨rfl, z⟩
      simp -implicitDefEqProofs [m__law_take, runDef, b__law_take, startE, gIx_ref h2, iMod_pos h0, h2, ixN, fin, gIx_ref gs, g1, g2, g3, p5, p3, m1, m2, d1, hb]
theorem box_ok (b : Int) (S : Sto) : ∃ o, m__law_box [.d (.int b)] S = some (.ref S.length, S ++ [o]) ∧ Bx (S ++ [o]) S.length 0 := by
  have p : iPow 10 18 = some (.int 1000000000000000000) := iPow_b (n := 18) (by decide) (by decide)
  have m := iMod_pos (i := (b.natAbs : Int)) (j := 2147483629) (by decide)
  have u0 := Int.emod_nonneg (b.natAbs : Int) (b := 2147483629) (by decide)
  have u1 := Int.emod_lt_of_pos (b.natAbs : Int) (b := 2147483629) (by decide)
  have hs : 4 ≤ sizeLine := by rw [sizeLine_eq]; decide
  refine ⟨.lst [.int b.natAbs, .bl (decide ((1000000000000000000 : Int) ≤ b.natAbs)), .int ((b.natAbs : Int) % 2147483629), .int 0], ?_, (b.natAbs : Int), decide ((1000000000000000000 : Int) ≤ b.natAbs), (b.natAbs : Int) % 2147483629, 0, (by simp), by omega, u0, by omega, by omega, by omega⟩
  simp -implicitDefEqProofs [m__law_box, runDef, b__law_box, startE, p, m, hs, fin]
theorem cell_ok (ns : List Int) (k : Nat) (hk : k < 64) (S : Sto) : ∃ i, m__law_cell [.scr ns, .d (.int k)] S = some (.d (.int i), S) := by
  by_cases h : k < ns.length
  · have hx := gIx_scr h S
    exact ⟨ns[k], by simp -implicitDefEqProofs [m__law_cell, runDef, b__law_cell, startE, gLen_scr, hx, h, fin]⟩
  · have g : gMul .pure (.d (.int 9497)) (.d (.int k)) S = some (.d (.int (9497 * k)), S) := gMul_b (a := 24) (b := 24) (by decide) (by omega) (by decide) (by decide) (by decide)
    have m := iMod_pos (i := (ns.take 1).sum) (j := 1000003) (by decide)
    exact ⟨9497 * k + (ns.take 1).sum % 1000003, by simp -implicitDefEqProofs [-List.map_take, m__law_cell, runDef, b__law_cell, startE, gLen_scr, gSl_scr1, gSum_lst, g, m, h, fin]⟩

theorem pick_ok {S : Sto} {n c : Nat} {w : W} {xs : List D} (hB : Bx S n c) (hc : c < 1000000) (h : W.list S w = some xs) (hn : w ≠ .ref n) (h0 : 0 < xs.length) (h1 : xs.length < 1000000) :
    ∃ (k : Nat) (hk : k < xs.length) (o : Ob), m__law_pick [.ref n, w] S = some (.d xs[k], S.set n o) ∧ Bx (S.set n o) n (c + 1) := by
  obtain ⟨r, o, h2, h3, h4, h5⟩ := take_ok hB hc (many := xs.length) (by omega) (by omega)
  obtain ⟨k, rfl⟩ : ∃ k : Nat, r = k := ⟨r.toNat, by omega⟩
  have hk : k < xs.length := by omega
  refine ⟨k, hk, o, ?_, h5⟩
  have hg := get_lst (list_set (o := o) h hn) hk
  simp -implicitDefEqProofs [m__law_pick, runDef, b__law_pick, startE, len_lst h, h2, hg, fin]
theorem mixed_ok {S : Sto} {n c : Nat} {w : W} {xs : List D} (hB : Bx S n c) (hc : c + xs.length < 1000000) (h : W.list S w = some xs) (hn : w ≠ .ref n) :
    ∃ (ys : List D) (o : Ob), m__law_mixed [.ref n, w] S = some (.d (.lst ys), S.set n o) ∧ ys.Perm xs ∧ Bx (S.set n o) n (c + xs.length) := by
  have hl := hB.lt
  have hseq : W.seq S w = some xs := by unfold W.seq; rw [h]
  have hsz : xs.length < sizeLine := by rw [sizeLine_eq]; omega
  have loop := forM_ok (k := ⟨upFrom 0 xs.length, none⟩) (g := mgName 2) (b := sExpr (mMeth "list" gAppend (mVar 4) (mCons (mMeth "list" gPopAt (mVar 3) (mCons (mCall m__law_take (mCons (mVar 0) (mCons (mCall gLen (mCons (mVar 3) mNil)) mNil))) mNil)) mNil)))
    (fun rest env T => ∃ (o : Ob) (t : Option W) (as bs : List D), env = [some (.ref n), some w, t, some (.ref S.length), some (.ref (S.length + 1))] ∧ T = S.set n o ++ [.lst as, .lst bs] ∧ Bx (S.set n o) n (c + (xs.length - rest.length)) ∧ (bs ++ as).Perm xs ∧ as.length = rest.length)
    (fun _ _ _ _ => rfl) (fun x rest env T hI => ?_) (upFrom 0 xs.length) [some (.ref n), some w, none, some (.ref S.length), some (.ref (S.length + 1))] (S ++ [.lst xs, .lst []]) ?_
  · obtain ⟨e', S', hf, o, t, as, bs, rfl, rfl, hb, hp, ha⟩ := loop
    have ha : as = [] := List.length_eq_zero_iff.mp ha
    subst ha
    rw [List.append_nil] at hp
    refine ⟨bs, o, ?_, hp, hb.mono (by simp)⟩
    have hr : (xs.length : Int) < 4611686018427387904 := by omega
    have hlo : gListOf .own [w] S = some (.ref S.length, S ++ [.lst xs]) := by unfold gListOf; simp [hseq]
    have hln : gLen [w] (S ++ [.lst xs, .lst []]) = some (.d (.int xs.length), S ++ [.lst xs, .lst []]) := len_lst (list_app h)
    simp -implicitDefEqProofs [m__law_mixed, runDef, b__law_mixed, startE, hlo, hln, miRange1, hr, hf, fin]
  · obtain ⟨o, t, as, bs, rfl, rfl, hb, hp, ha⟩ := hI
    simp only [List.length_cons] at hb ha
    have hlen : (S.set n o).length = S.length := List.length_set
    have hxl : as.length ≤ xs.length := by
      have := hp.length_eq
      simp at this; omega
    have hbl : bs.length < 16777216 := by
      have := hp.length_eq
      simp at this; omega
    have ga := g2a (S.set n o) (.lst as) (.lst bs) hlen.symm
    have ll := len_lst (list_ref ga)
    obtain ⟨r, o2, k1, k2, k3, k4⟩ := take_ok (hb.app (T := [.lst as, .lst bs])) (by omega) (many := as.length) (by omega) (by omega)
    obtain ⟨k, rfl⟩ : ∃ k : Nat, r = k := ⟨r.toNat, by omega⟩
    have hk : k < as.length := by omega
    rw [set_app _ _ _ (by rw [hlen]; exact hl), set_set] at k1 k4
    have hlen2 : (S.set n o2).length = S.length := List.length_set
    have ga2 := g2a (S.set n o2) (.lst as) (.lst bs) hlen2.symm
    have pp := popAt_ref ga2 hk (by omega)
    rw [s2a _ _ _ _ hlen2.symm] at pp
    have gb := g2b (S.set n o2) (.lst (as.eraseIdx k)) (.lst bs) (n := S.length + 1) (by rw [hlen2])
    have ap := append_ref (x := as[k]) gb hbl
    rw [s2b _ _ _ _ (by rw [hlen2])] at ap
    have gb0 := g2b (S.set n o) (.lst as) (.lst bs) (n := S.length + 1) (by rw [hlen])
    refine ⟨[some (.ref n), some w, some (.d x), some (.ref S.length), some (.ref (S.length + 1))], _, [some (.ref n), some w, some (.d x), some (.ref S.length), some (.ref (S.length + 1))], S.set n o2 ++ [.lst (as.eraseIdx k), .lst (bs ++ [as[k]])], rfl, ?_, o2, some (.d x), as.eraseIdx k, bs ++ [as[k]], rfl, rfl, ?_, ?_, ?_⟩
    · simp -implicitDefEqProofs [ty_ref ga, ty_ref gb0, ll, k1, pp, ap]
    · exact (k4.of_app (by rw [hlen2]; exact hl)).mono (by omega)
    · refine List.Perm.trans ?_ hp
      rw [List.append_assoc]
      exact List.Perm.append_left bs (perm_erase hk).symm
    · rw [List.length_eraseIdx_of_lt hk]; omega
  · obtain ⟨b0, fl, sd, c', q1, q2⟩ := id hB
    refine ⟨.lst [.int b0, .bl fl, .int sd, .int c'], none, xs, [], rfl, ?_, ?_, by simp, by simp⟩
    · congr 1
      rw [List.getElem?_eq_getElem hl] at q1
      rw [← Option.some.inj q1, List.set_getElem_self]
    · have : S.set n (.lst [.int b0, .bl fl, .int sd, .int c']) = S := by
        rw [List.getElem?_eq_getElem hl] at q1
        rw [← Option.some.inj q1, List.set_getElem_self]
      rw [this]
      exact hB.mono (by omega)


end K50
end
section
set_option maxRecDepth 100000
namespace K50
open PySem L2 MW
structure TOk (many : Int) (t : Tie) : Prop where
  a0 : 0 ≤ t.a
  a1 : t.a < many
  b0 : 0 ≤ t.b
  b1 : t.b < many
  ne : t.a ≠ t.b
  c0 : 0 ≤ t.c
  c1 : t.c ≤ 1
  cd : t.c.den < 2 ^ 7
theorem num_le {c : Rat} (h0 : 0 ≤ c) (h1 : c ≤ 1) : 0 ≤ c.num ∧ c.num ≤ c.den := by
  refine ⟨Rat.num_nonneg.mpr h0, ?_⟩
  have := (Rat.le_iff c 1).mp h1
  simpa using this
theorem is_chance_ok {c : Rat} (h0 : 0 ≤ c) (h1 : c ≤ 1) (S : Sto) : m_is_chance [.d (fr c)] S = some (.d (.bl true), S) := by
  obtain ⟨a, b⟩ := num_le h0 h1
  rw [fr_eq, is_chance_pair]
  have h1 := c.den_pos
  have h2 : Nat.gcd c.num.natAbs c.den = 1 := c.reduced
  simp [h1, h2, a, b]
theorem is_index_ok (i n : Int) (S : Sto) : m_is_index [.d (.int i), .d (.int n)] S = some (.d (.bl (decide (0 ≤ i) && decide (i < n))), S) := by
  by_cases h : 0 ≤ i <;> simp -implicitDefEqProofs [m_is_index, runPure, b_is_index, startE, is_integer_int, h]
theorem is_within_ok (i a b : Int) (S : Sto) : m_is_within [.d (.int i), .d (.int a), .d (.int b)] S = some (.d (.bl (decide (a ≤ i) && decide (i ≤ b))), S) := by
  by_cases h : a ≤ i <;> simp -implicitDefEqProofs [m_is_within, runPure, b_is_within, startE, is_integer_int, h]
theorem tie_ok {many : Int} {t : Tie} (h : TOk many t) (S : Sto) : m_is_one_way_tie [.d (.int many), .d t.d] S = some (.d (.bl true), S) := by
  have e : t.d = .tup [.int t.a, .int t.b, fr t.c] := rfl
  have t1 := is_tuple_tup [.int t.a, .int t.b, fr t.c] 3 ([] : Sto)
  have i1 := is_index_ok t.a many ([] : Sto)
  have i2 := is_index_ok t.b many ([] : Sto)
  have c := is_chance_ok h.c0 h.c1 ([] : Sto)
  simp only [h.a0, h.a1, h.b0, h.b1, decide_true, Bool.and_true] at i1 i2
  rw [e]
  simp -implicitDefEqProofs [m_is_one_way_tie, runPure, b_is_one_way_tie, startE, t1, i1, i2, c, h.ne]
def netD (many : Int) (T : List Tie) : D := .tup [.int many, .tup (T.map Tie.d)]
theorem all_true (xs : List D) (S : Sto) : gBs (fun is => is.all id) [.d (.lst ((xs.filter fun _ => true).map fun _ => D.bl true))] S = some (.d (.bl true), S) := by
  have e : ((xs.filter fun _ => true).map fun _ => D.bl true) = (xs.map fun _ => true).map D.bl := by
    rw [List.map_map, List.filter_eq_self.mpr fun _ _ => rfl]
    rfl
  rw [e, gBs_lst]
  simp
theorem leD_ok {t u : Tie} (h : D.lt u.d t.d = false) (S : Sto) : gLeD (.d t.d) (.d u.d) S = some (.d (.bl true), S) := by
  show (if D.cmp t.d u.d = true ∧ D.shp t.d = true ∧ D.shp u.d = true then some (W.d (.bl (!D.lt u.d t.d)), S) else none) = _
  rw [if_pos ⟨Tie.cmp t u, okD_shp (t.okd 0), okD_shp (u.okd 0)⟩, h]
  rfl
theorem in_order_ok {T : List Tie} (hl : T.length ≤ 1000) (hs : (T.map Tie.d).Pairwise fun x y => D.lt y x = false) (S : Sto) : m_in_order [.d (.tup (T.map Tie.d))] S = some (.d (.bl true), S) := by
  have lc : mLc .pure (miRange2 (mCons (mC (.int 1)) (mCons (mCall gLen (mCons (mVar 0) mNil)) mNil))) (.nm 1) tYesM (mBin (gLeD) (mBin gIx (mVar 0) (mBin (gInt iSub) (mVar 1) (mC (.int 1)))) (mBin gIx (mVar 0) (mVar 1))) [1] [some (.d (.tup (T.map Tie.d))), none] [] =
      some (.d (.lst (((upFrom 1 (T.length - 1)).filter fun _ => true).map fun _ => D.bl true)), []) := by
    refine mLc_d rfl ?_ _ _ ?_ ?_
    · have e : ((T.length : Int) - 1).toNat = T.length - 1 := by omega
      have r1 : (T.length : Int) < 4611686018427387904 := by omega
      unfold miRange2
      simp -implicitDefEqProofs [r1, e]
      try omega
    · intro x hx
      obtain ⟨i, hi, rfl⟩ := upFrom_mem hx
      have h1 : i < T.length := by omega
      have h2 : i + 1 < T.length := by omega
      refine ⟨[some (.d (.tup (T.map Tie.d))), some (.d (.int (1 + i)))], rfl, rfl, fun _ => ?_⟩
      have g1 : gIx (.d (.tup (T.map Tie.d))) (.d (.int (1 + i - 1))) ([] : Sto) = some (.d T[i].d, []) := by
        have e : (1 + (i : Int) - 1) = (i : Nat) := by omega
        rw [gIx_tup, e, MW.atI_nat, List.getElem?_map, List.getElem?_eq_getElem h1]
        rfl
      have g2 : gIx (.d (.tup (T.map Tie.d))) (.d (.int (1 + i))) ([] : Sto) = some (.d T[i + 1].d, []) := by
        have e : (1 + (i : Int)) = ((i + 1 : Nat) : Int) := by omega
        rw [gIx_tup, e, MW.atI_nat, List.getElem?_map, List.getElem?_eq_getElem h2]
        rfl
      have hlt : D.lt T[i + 1].d T[i].d = false := by
        have := List.pairwise_iff_getElem.mp hs i (i + 1) (by simpa using h1) (by simpa using h2) (by omega)
        simpa using this
      have l := leD_ok hlt ([] : Sto)
      simp -implicitDefEqProofs [-gIx_tup, g1, g2, l]
    · simp [upFrom]; omega
  have al := all_true (upFrom 1 (T.length - 1)) ([] : Sto)
  simp -implicitDefEqProofs [m_in_order, runPure, b_in_order, startE, lc, al]
theorem one_way_ok {many : Int} {T : List Tie} (h1 : 1 ≤ many) (h2 : many ≤ 10) (hl : T.length ≤ 12) (ht : ∀ t ∈ T, TOk many t) (hs : (T.map Tie.d).Pairwise fun x y => D.lt y x = false) (S : Sto) : m_is_one_way [.d (netD many T)] S = some (.d (.bl true), S) := by
  have e : netD many T = .tup [.int many, .tup (T.map Tie.d)] := rfl
  have lc : ∀ v, mLc .pure (miSeq (mVar 2)) (.nm 3) tYesM (mCall m_is_one_way_tie (mCons (mVar 1) (mCons (mVar 3) mNil))) [3] [some (.d v), some (.d (.int many)), some (.d (.tup (T.map Tie.d))), none] [] =
      some (.d (.lst (((T.map Tie.d).filter fun _ => true).map fun _ => D.bl true)), []) := fun v => by
    refine mLc_d rfl (miSeq_tup rfl) _ _ ?_ (by simp; omega)
    intro x hx
    obtain ⟨t, ht', rfl⟩ := List.mem_map.mp hx
    refine ⟨[some (.d v), some (.d (.int many)), some (.d (.tup (T.map Tie.d))), some (.d t.d)], rfl, rfl, fun _ => ?_⟩
    simp -implicitDefEqProofs [tie_ok (ht t ht')]
  have al := all_true (T.map Tie.d) ([] : Sto)
  have t1 := is_tuple_tup [.int many, .tup (T.map Tie.d)] 2 ([] : Sto)
  have w1 := is_within_ok many 1 10 ([] : Sto)
  have o1 := in_order_ok (by omega) hs ([] : Sto)
  have l1 : ¬ (12 : Int) < (T.length : Int) := by omega
  simp only [h1, h2, decide_true, Bool.and_true] at w1
  rw [e]
  simp -implicitDefEqProofs [m_is_one_way, runPure, b_is_one_way, startE, t1, w1, lc, al, o1, l1, tyD, isT]
theorem check_ok {many : Int} {T : List Tie} (h1 : 1 ≤ many) (h2 : many ≤ 10) (hl : T.length ≤ 12) (ht : ∀ t ∈ T, TOk many t) (hs : (T.map Tie.d).Pairwise fun x y => D.lt y x = false) (S : Sto) : m_check_one_way [.d (netD many T)] S = some (.d .non, S) := by
  have q := one_way_ok h1 h2 hl ht hs ([] : Sto)
  simp -implicitDefEqProofs [m_check_one_way, runPure, b_check_one_way, startE, q]
theorem check_place_ok {many p : Int} {T : List Tie} (h1 : 0 ≤ p) (h2 : p < many) (S : Sto) : m_check_place [.d (netD many T), .d (.int p)] S = some (.d .non, S) := by
  have q := is_index_ok p many ([] : Sto)
  simp only [h1, h2, decide_true, Bool.and_true] at q
  have e : netD many T = .tup [.int many, .tup (T.map Tie.d)] := rfl
  rw [e]
  simp -implicitDefEqProofs [m_check_place, runPure, b_check_place, startE, q]
theorem fr_rest (c : Rat) : fr (1 - c) = .tup [.int (c.den - c.num), .int c.den] := by
  have hg : Nat.gcd ((c.den : Int) - c.num).natAbs c.den = 1 := by
    have h1 : Int.gcd ((c.den : Int) - c.num) c.den = Int.gcd c.num c.den := by
      rw [Int.gcd_comm, Int.gcd_self_sub_right, Int.gcd_comm]
    have h2 : Int.gcd c.num c.den = 1 := c.reduced
    rw [h2] at h1
    exact h1
  have e : 1 - c = ⟨(c.den : Int) - c.num, c.den, c.den_nz, hg⟩ := by
    rw [Rat.mk_eq_divInt, Rat.divInt_eq_div, Rat.intCast_sub]
    have hd : (c.den : Rat) ≠ 0 := by exact_mod_cast c.den_nz
    have h1 := Rat.mul_den_eq_num' c
    rw [← h1]
    show 1 - c = ((c.den : Rat) - c * (c.den : Rat)) / (c.den : Rat)
    have h2 := Rat.mul_inv_cancel _ hd
    rw [Rat.div_def]
    grind
  rw [fr_eq, e]
theorem rest_ok (c : Rat) (S : Sto) : m_rest [.d (fr c)] S = some (.d (fr (1 - c)), S) := by
  have hs : (2 : Nat) ≤ sizeLine := by rw [sizeLine_eq]; decide
  rw [fr_rest, fr_eq]
  simp -implicitDefEqProofs [m_rest, runPure, b_rest, startE, hs]
theorem without_ok {L : List Tie} {t : Tie} (h : t ∈ L) (hl : L.length ≤ 1000) (S : Sto) : ∃ L', m_without_one [.d (.lst (L.map Tie.d)), .d t.d] S = some (.d (.lst (L'.map Tie.d)), S) ∧ L.Perm (t :: L') := by
  obtain ⟨j, L', h1, h2, h3, h4⟩ := Tie.out h
  refine ⟨L', ?_, h4⟩
  have h5 : gIndexL (.d (.lst (L.map Tie.d))) [.d t.d] ([] : Sto) = some (.d (.int j), []) := by rw [h1]
  have c1 := cut_to (L.map Tie.d) j
  have c2 := cut_from (L.map Tie.d) (j + 1)
  have e1 : ((j : Int) + 1) = ((j + 1 : Nat) : Int) := by omega
  have hz : (min j L.length) + (L.length - (j + 1)) ≤ sizeLine := by rw [sizeLine_eq]; omega
  have ty : W.ty ([] : Sto) (.d (.lst (L.map Tie.d))) = some "list" := rfl
  simp -implicitDefEqProofs [m_without_one, runPure, b_without_one, startE, ty, h5, gSl_lst, c1, e1, c2, hz, -Int.natCast_add]
  rw [← h3, List.map_append, List.map_take, List.map_drop]
theorem sum_of_loop {d B : Nat} (hd : d ≠ 0) (hB : d < 2 ^ B) (hB2 : 2 * B ≤ 9000) (hB0 : 0 < B) : ∀ (ws : List Rat) (t : Rat) (x : Option W) (y : W), (∀ w ∈ ws, 0 ≤ w ∧ Part w d) → 0 ≤ t → Part t d → t + sumR ws ≤ 1 →
    ∃ x', MW.forM ⟨ws.map fr, none⟩ (mgName 2) (sAsg (mCall m_add (mCons (mVar 1) (mCons (mVar 2) mNil))) (mgName 1)) (ws.map fr) [some y, some (.d (fr t)), x] [] = some (.nx [some y, some (.d (fr (t + sumR ws))), x'] []) := by
  intro ws
  have key : ∀ (ws : List Rat) (k : Wk) (t : Rat) (x : Option W) (y : W), k.ok [] = true → (∀ w ∈ ws, 0 ≤ w ∧ Part w d) → 0 ≤ t → Part t d → t + sumR ws ≤ 1 →
      ∃ x', MW.forM k (mgName 2) (sAsg (mCall m_add (mCons (mVar 1) (mCons (mVar 2) mNil))) (mgName 1)) (ws.map fr) [some y, some (.d (fr t)), x] [] = some (.nx [some y, some (.d (fr (t + sumR ws))), x'] []) := by
    intro ws
    induction ws with
    | nil =>
      intro k t x y hk _ _ _ _
      refine ⟨x, ?_⟩
      have e : t + sumR [] = t := by simp only [sumR]; grind
      rw [e]
      simp [MW.forM, hk]
    | cons w ws ih =>
      intro k t x y hk hw ht hp hs
      obtain ⟨w0, wp⟩ := hw w List.mem_cons_self
      have hw' : ∀ v ∈ ws, 0 ≤ v ∧ Part v d := fun v hv => hw v (List.mem_cons_of_mem _ hv)
      have nn : ∀ l : List Rat, (∀ v ∈ l, 0 ≤ v ∧ Part v d) → 0 ≤ sumR l := by
        intro l
        induction l with
        | nil => intro _; exact Rat.le_refl
        | cons v l ih2 =>
          intro h
          exact Rat.add_nonneg (h v List.mem_cons_self).1 (ih2 fun u hu => h u (List.mem_cons_of_mem _ hu))
      have n1 := nn ws hw'
      simp only [sumR] at hs ⊢
      have z1 : Sz t B := hp.sz hd hB ht (by grind)
      have z2 : Sz w B := wp.sz hd hB w0 (by grind)
      have a := add_ok z1 z2 (by omega) hB0 hB0 ([] : Sto)
      obtain ⟨x', hx⟩ := ih k (t + w) (some (.d (fr w))) y hk hw' (Rat.add_nonneg ht w0) (hp.add wp) (by grind)
      refine ⟨x', ?_⟩
      have e : t + (w + sumR ws) = t + w + sumR ws := by grind
      rw [e, List.map_cons]
      unfold MW.forM
      rw [if_pos hk]
      simp -implicitDefEqProofs [a, hx]
  exact fun t x y => key ws ⟨ws.map fr, none⟩ t x y rfl
theorem fr0 : fr 0 = .tup [.int 0, .int 1] := rfl
theorem fr1 : fr 1 = .tup [.int 1, .int 1] := rfl
theorem sum_of_ok {d B : Nat} (hd : d ≠ 0) (hB : d < 2 ^ B) (hB2 : 2 * B ≤ 9000) (hB0 : 0 < B) {ws : List Rat} (h : ∀ w ∈ ws, 0 ≤ w ∧ Part w d) (hs : sumR ws ≤ 1) (S : Sto) : m_sum_of [.d (.lst (ws.map fr))] S = some (.d (fr (sumR ws)), S) := by
  have e0 : (0 : Rat) + sumR ws = sumR ws := by grind
  obtain ⟨x', hl⟩ := sum_of_loop hd hB hB2 hB0 ws 0 none (.d (.lst (ws.map fr))) h Rat.le_refl (Part.zero d) (by rw [e0]; exact hs)
  rw [e0] at hl
  simp only [fr0] at hl
  have mi : ∀ x, miSeq (mVar 0) [some (.d (.lst (ws.map fr))), some (.d (.tup [.int 0, .int 1])), x] ([] : Sto) = some (⟨ws.map fr, none⟩, []) := fun x => miSeq_lst rfl
  simp -implicitDefEqProofs [m_sum_of, runPure, b_sum_of, startE, mi, hl]
end K50
end
section
set_option maxRecDepth 100000
namespace K50
open PySem L2 MW
abbrev SI := List Int × List Tie × Rat
abbrev FI := List Int × Rat
def encS (i : SI) : D := .tup [.lst (i.1.map D.int), .lst (i.2.1.map Tie.d), fr i.2.2]
def encF (i : FI) : D := .tup [.lst (i.1.map D.int), fr i.2]
def dn : List Tie → Nat
  | [] => 1
  | t :: L => t.c.den * dn L
theorem dn_perm {L L' : List Tie} (h : L.Perm L') : dn L = dn L' := by
  induction h with
  | nil => rfl
  | cons x _ ih => simp [dn, ih]
  | swap x y l => simp [dn, Nat.mul_left_comm]
  | trans _ _ a b => rw [a, b]
theorem dn_pos : ∀ L : List Tie, 0 < dn L
  | [] => by simp [dn]
  | t :: L => Nat.mul_pos t.c.den_pos (dn_pos L)
theorem dn_lt {many : Int} : ∀ L : List Tie, (∀ t ∈ L, TOk many t) → dn L ≤ 2 ^ (7 * L.length)
  | [], _ => by simp [dn]
  | t :: L, h => by
    have h1 := dn_lt L fun x hx => h x (List.mem_cons_of_mem _ hx)
    have h2 := (h t List.mem_cons_self).cd
    have e : 7 * (t :: L).length = 7 + 7 * L.length := by simp; omega
    rw [e, Nat.pow_add]
    exact Nat.mul_le_mul (Nat.le_of_lt h2) h1
structure SOk (many : Int) (N : Nat) (i : SI) : Prop where
  nd : i.1.Nodup
  rg : ∀ x ∈ i.1, 0 ≤ x ∧ x < many
  ts : ∀ t ∈ i.2.1, TOk many t
  ln : i.2.1.length ≤ 12
  w0 : 0 ≤ i.2.2
  w1 : i.2.2 ≤ 1
  pt : ∃ K : Nat, K * dn i.2.1 = N ∧ Part i.2.2 K
structure FOk (many : Int) (N : Nat) (i : FI) : Prop where
  nd : i.1.Nodup
  rg : ∀ x ∈ i.1, 0 ≤ x ∧ x < many
  w0 : 0 ≤ i.2
  w1 : i.2 ≤ 1
  pt : Part i.2 N
def ms : Nat → Nat
  | 0 => 1
  | n + 1 => 2 * ms n + 1
def mst : List SI → Nat
  | [] => 0
  | i :: l => ms i.2.1.length + mst l
theorem mst_app : ∀ a b : List SI, mst (a ++ b) = mst a + mst b
  | [], b => by simp [mst]
  | i :: a, b => by simp only [List.cons_append, mst, mst_app a b]; omega
theorem ms_pos : ∀ n, 1 ≤ ms n
  | 0 => Nat.le_refl _
  | n + 1 => by simp only [ms]; omega
theorem mst_len : ∀ l : List SI, l.length ≤ mst l
  | [] => Nat.le_refl _
  | i :: l => by
    have := ms_pos i.2.1.length
    have := mst_len l
    simp only [List.length_cons, mst]
    omega
noncomputable def valF (G : (Int → Prop) → Prop) (F : List FI) : Rat := sumR (F.map fun i => i.2 * ind (G fun x => x ∈ i.1))
noncomputable def valS (G : (Int → Prop) → Prop) (s : List SI) : Rat := sumR (s.map fun i => i.2.2 * RX i.2.1 i.1 G)
theorem valF_app (G : (Int → Prop) → Prop) (a b : List FI) : valF G (a ++ b) = valF G a + valF G b := by unfold valF; rw [List.map_append, sumR_append]
theorem valS_app (G : (Int → Prop) → Prop) (a b : List SI) : valS G (a ++ b) = valS G a + valS G b := by unfold valS; rw [List.map_append, sumR_append]
theorem valF_one (G : (Int → Prop) → Prop) (i : FI) : valF G [i] = i.2 * ind (G fun x => x ∈ i.1) := by simp only [valF, List.map_cons, List.map_nil, sumR]; grind
theorem valS_one (G : (Int → Prop) → Prop) (i : SI) : valS G [i] = i.2.2 * RX i.2.1 i.1 G := by simp only [valS, List.map_cons, List.map_nil, sumR]; grind
theorem okF (i : FI) (h : i.1.length ≤ 1000) : okD 4 (encF i) := okD_t (by simp) fun x hx => by
  simp only [List.mem_cons, List.not_mem_nil, or_false] at hx
  rcases hx with rfl | rfl
  · exact okD_l (by simp; omega) fun y hy => by
      obtain ⟨z, _, rfl⟩ := List.mem_map.mp hy
      trivial
  · exact okD_fr' _ _
theorem okT (L : List Tie) (n : Nat) (h : L.length ≤ 1000) : okD (n + 4) (.lst (L.map Tie.d)) := okD_l (by simp; omega) fun y hy => by
  obtain ⟨z, _, rfl⟩ := List.mem_map.mp hy
  exact z.okd n
theorem okS (i : SI) (h : i.1.length ≤ 1000) (h2 : i.2.1.length ≤ 1000) : okD 5 (encS i) := okD_t (by simp) fun x hx => by
  simp only [List.mem_cons, List.not_mem_nil, or_false] at hx
  rcases hx with rfl | rfl | rfl
  · exact okD_l (by simp; omega) fun y hy => by
      obtain ⟨z, _, rfl⟩ := List.mem_map.mp hy
      trivial
  · exact okT _ 0 h2
  · exact okD_fr' _ _
/-- places without a double, all below many -/
theorem nd_len {many : Nat} : ∀ {P : List Int}, P.Nodup → (∀ x ∈ P, 0 ≤ x ∧ x < many) → P.length ≤ many := by
  intro P h1 h2
  have hr : ((List.range many).map (fun i : Nat => (i : Int))).Nodup := List.Pairwise.map _ (fun a b h e => h (by exact_mod_cast e)) List.nodup_range
  have hp : P.Perm (((List.range many).map (fun i : Nat => (i : Int))).filter fun x => decide (x ∈ P)) := by
    refine (List.perm_ext_iff_of_nodup h1 (List.Pairwise.filter _ hr)).mpr fun x => ?_
    rw [List.mem_filter]
    constructor
    · intro hx
      obtain ⟨a, b⟩ := h2 x hx
      exact ⟨List.mem_map.mpr ⟨x.toNat, by simp; omega, by omega⟩, by simpa using hx⟩
    · rintro ⟨_, hx⟩
      simpa using hx
  rw [hp.length_eq]
  exact Nat.le_trans (List.length_filter_le _ _) (by simp)
theorem gNe_fr0 (w : Rat) (S : Sto) : gNe (.d (fr w)) (.d (.tup [.int 0, .int 1])) S = some (.d (.bl (!decide (w = 0))), S) := by
  rw [← fr0, gNe_d (shp_fr w) (shp_fr 0), eqv_fr]
theorem mStarC_run (f : ME) (ga : MA) (env : MW.Env) (S : Sto) : mStarC f ga env S = (f env S).bind fun p => (W.seq p.2 p.1).bind fun xs => (ga env p.2).bind fun q => some (xs.map W.d ++ q.1, q.2) := (rfl : _ = _).trans rfl
theorem seq_lst (S : Sto) (xs : List D) : W.seq S (.d (.lst xs)) = some xs := (rfl : _ = _).trans rfl
theorem seq_tup (S : Sto) (xs : List D) : W.seq S (.d (.tup xs)) = some xs := (rfl : _ = _).trans rfl
theorem give_map : ∀ (xs : List D) (S : Sto), give (xs.map W.d) S = some (xs, S)
  | [], S => rfl
  | x :: xs, S => by
    rw [List.map_cons]
    show (give (xs.map W.d) S).bind _ = _
    rw [give_map xs S]
    rfl
theorem give_star (xs : List D) (y : D) (S : Sto) : give (xs.map W.d ++ [.d y]) S = some (xs ++ [y], S) := by
  have := give_map (xs ++ [y]) S
  rw [List.map_append] at this
  exact this
/-- what the ties on the edge are -/
def onE (P : List Int) (t : Tie) : Bool := decide (t.a ∈ P) && !decide (t.b ∈ P)
def bRS : MS := (sSeq (sAsg (mMeth "list" gPop (mVar 3) mNil) (mgTup 3 (mgCons (mgName 5) (mgCons (mgName 6) (mgCons (mgName 7) mgNil)))))
  (sSeq (sAsg (mLc .pure (miSeq (mVar 6)) (.nm 12) (mAnd (mTest (mBin (gIn false) (mBin gIx (mVar 12) (mC (.int 0))) (mVar 5))) (mTest (mBin (gIn true) (mBin gIx (mVar 12) (mC (.int 1))) (mVar 5)))) (mVar 12) [12]) (mgName 4))
  (sSeq (sIf (mAnd (mTest (mBin (gNe) (mVar 7) (mC (.tup [(.int 0), (.int 1)])))) (mTest (mBin (gEq) (mVar 4) (mList .pure mNil)))) (sExpr (mMeth "list" gAppend (mVar 2) (mCons (mTup (mCons (mVar 5) (mCons (mVar 7) mNil))) mNil))) sNil)
  (sIf (mAnd (mTest (mBin (gNe) (mVar 7) (mC (.tup [(.int 0), (.int 1)])))) (mTest (mBin (gNe) (mVar 4) (mList .pure mNil)))) (sSeq (sAsg (mBin gIx (mVar 4) (mC (.int 0))) (mgTup 3 (mgCons (mgName 9) (mgCons (mgName 10) (mgCons (mgName 11) mgNil)))))
  (sSeq (sAsg (mCall m_without_one (mCons (mVar 6) (mCons (mBin gIx (mVar 4) (mC (.int 0))) mNil))) (mgName 8))
  (sSeq (sExpr (mMeth "list" gAppend (mVar 3) (mCons (mTup (mCons (mList .pure (mStarC (mVar 5) (mCons (mVar 10) mNil))) (mCons (mVar 8) (mCons (mCall m_multiply (mCons (mVar 7) (mCons (mVar 11) mNil))) mNil)))) mNil)))
  (sExpr (mMeth "list" gAppend (mVar 3) (mCons (mTup (mCons (mVar 5) (mCons (mVar 8) (mCons (mCall m_multiply (mCons (mVar 7) (mCons (mCall m_rest (mCons (mVar 11) mNil)) mNil))) mNil)))) mNil)))))) sNil))))
theorem lc_on (P : List Int) (L : List Tie) (hl : L.length ≤ 1000) (a b c d v4 v7 v8 v9 v10 v11 : Option W) (S : Sto) :
    mLc .pure (miSeq (mVar 6)) (.nm 12) (mAnd (mTest (mBin (gIn false) (mBin gIx (mVar 12) (mC (.int 0))) (mVar 5))) (mTest (mBin (gIn true) (mBin gIx (mVar 12) (mC (.int 1))) (mVar 5)))) (mVar 12) [12]
      [a, b, c, d, v4, some (.d (.lst (P.map D.int))), some (.d (.lst (L.map Tie.d))), v7, v8, v9, v10, v11, none] S = some (.d (.lst ((L.filter (onE P)).map Tie.d)), S) := by
  have e : (((L.map Tie.d).filter fun x => onE P (Tie.of x)).map fun x => x) = (L.filter (onE P)).map Tie.d := by
    have q : (fun x => onE P (Tie.of x)) ∘ Tie.d = onE P := funext fun t => by
      show onE P (Tie.of t.d) = onE P t
      rw [Tie.of_d]
    rw [List.map_id', List.filter_map, q]
  rw [← e]
  refine mLc_d rfl (miSeq_lst rfl) _ _ ?_ (by simp; omega)
  intro x hx
  obtain ⟨t, _, rfl⟩ := List.mem_map.mp hx
  refine ⟨[a, b, c, d, v4, some (.d (.lst (P.map D.int))), some (.d (.lst (L.map Tie.d))), v7, v8, v9, v10, v11, some (.d t.d)], rfl, ?_, fun _ => rfl⟩
  rw [Tie.of_d]
  have g0 : gIx (.d t.d) (.d (.int 0)) S = some (.d (.int t.a), S) := rfl
  have g1 : gIx (.d t.d) (.d (.int 1)) S = some (.d (.int t.b), S) := rfl
  by_cases h : t.a ∈ P <;> simp -implicitDefEqProofs [g0, g1, gIn_lst, onE, h]
end K50
end
section
set_option maxRecDepth 100000
namespace K50
open PySem L2 MW
structure RI (many : Nat) (T : List Tie) (one : Int) (net : D) (k : Nat) (env : MW.Env) (S : Sto) (F : List FI) (s : List SI) : Prop where
  en : ∃ v4 v5 v6 v7 v8 v9 v10 v11 : Option W, env = [some (.d net), some (.d (.int one)), some (.ref 0), some (.ref 1), v4, v5, v6, v7, v8, v9, v10, v11, none]
  st : S = [.lst (F.map encF), .lst (s.map encS)]
  kk : k = mst s
  sz : F.length + mst s ≤ 8191
  so : ∀ i ∈ s, SOk many (dn T) i
  fo : ∀ i ∈ F, FOk many (dn T) i
  vl : ∀ G, valF G F + valS G s = RX T [one] G
theorem filter_nil_of {P : List Int} {L : List Tie} (h : L.filter (onE P) = []) : ∀ t ∈ L, t.a ∈ P → t.b ∈ P := fun t ht ha => by
  have := List.filter_eq_nil_iff.mp h t ht
  unfold onE at this
  simp [ha] at this
  exact this
theorem sz2 : 2 ≤ sizeLine := by rw [sizeLine_eq]; decide
theorem sz3 : 3 ≤ sizeLine := by rw [sizeLine_eq]; decide
section
variable {A B Ps Ls On : List D} {f : D} {a b v4 v5 v6 v7 v8 v9 v10 v11 : Option W}
theorem tst_nil : mTest (mBin (gNe) (mVar 3) (mList .pure mNil)) [a, b, some (.ref 0), some (.ref 1), v4, v5, v6, v7, v8, v9, v10, v11, none] [.lst A, .lst []] = some (false, [.lst A, .lst []]) := by
  have q := gNe_empR (S := [.lst A, .lst []]) (n := 1) rfl rfl
  simp -implicitDefEqProofs [q]
theorem tst_some {X : D} (h : D.shp (.lst (B ++ [X])) = true) : mTest (mBin (gNe) (mVar 3) (mList .pure mNil)) [a, b, some (.ref 0), some (.ref 1), v4, v5, v6, v7, v8, v9, v10, v11, none] [.lst A, .lst (B ++ [X])] = some (true, [.lst A, .lst (B ++ [X])]) := by
  have q := gNe_empR (S := [.lst A, .lst (B ++ [X])]) (n := 1) rfl h
  simp -implicitDefEqProofs [q]
def lcOn : ME := mLc .pure (miSeq (mVar 6)) (.nm 12) (mAnd (mTest (mBin (gIn false) (mBin gIx (mVar 12) (mC (.int 0))) (mVar 5))) (mTest (mBin (gIn true) (mBin gIx (mVar 12) (mC (.int 1))) (mVar 5)))) (mVar 12) [12]
variable (on : ∀ v7 S, lcOn [a, b, some (.ref 0), some (.ref 1), v4, some (.d (.lst Ps)), some (.d (.lst Ls)), v7, v8, v9, v10, v11, none] S = some (.d (.lst On), S))
include on
theorem exec0 (n0 : ∀ S, gNe (.d f) (.d (.tup [.int 0, .int 1])) S = some (.d (.bl false), S)) :
    bRS [a, b, some (.ref 0), some (.ref 1), v4, v5, v6, v7, v8, v9, v10, v11, none] [.lst A, .lst (B ++ [.tup [.lst Ps, .lst Ls, f]])] =
      some (.nx [a, b, some (.ref 0), some (.ref 1), some (.d (.lst On)), some (.d (.lst Ps)), some (.d (.lst Ls)), some (.d f), v8, v9, v10, v11, none] [.lst A, .lst B]) := by
  have pop := pop_ref (S := [.lst A, .lst (B ++ [.tup [.lst Ps, .lst Ls, f]])]) (n := 1) rfl
  have ty : W.ty [.lst A, .lst (B ++ [.tup [.lst Ps, .lst Ls, f]])] (.ref 1) = some "list" := ty_ref (S := [.lst A, .lst (B ++ [.tup [.lst Ps, .lst Ls, f]])]) (n := 1) rfl
  unfold lcOn at on
  simp -implicitDefEqProofs [bRS, ty, pop, on, n0]
theorem exec1 (h : On = []) (n0 : ∀ S, gNe (.d f) (.d (.tup [.int 0, .int 1])) S = some (.d (.bl true), S)) (hA : A.length < 16777216) :
    bRS [a, b, some (.ref 0), some (.ref 1), v4, v5, v6, v7, v8, v9, v10, v11, none] [.lst A, .lst (B ++ [.tup [.lst Ps, .lst Ls, f]])] =
      some (.nx [a, b, some (.ref 0), some (.ref 1), some (.d (.lst [])), some (.d (.lst Ps)), some (.d (.lst Ls)), some (.d f), v8, v9, v10, v11, none] [.lst (A ++ [.tup [.lst Ps, f]]), .lst B]) := by
  subst h
  have pop := pop_ref (S := [.lst A, .lst (B ++ [.tup [.lst Ps, .lst Ls, f]])]) (n := 1) rfl
  have ty : W.ty [.lst A, .lst (B ++ [.tup [.lst Ps, .lst Ls, f]])] (.ref 1) = some "list" := ty_ref (S := [.lst A, .lst (B ++ [.tup [.lst Ps, .lst Ls, f]])]) (n := 1) rfl
  have ap := append_ref (S := [.lst A, .lst B]) (n := 0) (x := .tup [.lst Ps, f]) rfl hA
  have ty0 : W.ty [.lst A, .lst B] (.ref 0) = some "list" := ty_ref (S := [.lst A, .lst B]) (n := 0) rfl
  have ne : ∀ S, gNe (.d (.lst [])) (.d (.lst [])) S = some (.d (.bl false), S) := fun S => gNe_emp (xs := []) rfl
  unfold lcOn at on
  simp -implicitDefEqProofs [bRS, ty, pop, on, n0, ty0, ap, sz2, ne]
theorem exec2 {x y z p q : D} {r Ls' : List D} (h : On = .tup [x, y, z] :: r) (hs : D.shp (.lst On) = true) (n0 : ∀ S, gNe (.d f) (.d (.tup [.int 0, .int 1])) S = some (.d (.bl true), S)) (hB : B.length < 10000000) (hP : Ps.length < 100000)
    (wo : ∀ S, m_without_one [.d (.lst Ls), .d (.tup [x, y, z])] S = some (.d (.lst Ls'), S)) (m1 : ∀ S, m_multiply [.d f, .d z] S = some (.d p, S)) (rs : ∀ S, ∃ u, m_rest [.d z] S = some (.d u, S) ∧ m_multiply [.d f, .d u] S = some (.d q, S)) :
    bRS [a, b, some (.ref 0), some (.ref 1), v4, v5, v6, v7, v8, v9, v10, v11, none] [.lst A, .lst (B ++ [.tup [.lst Ps, .lst Ls, f]])] =
      some (.nx [a, b, some (.ref 0), some (.ref 1), some (.d (.lst On)), some (.d (.lst Ps)), some (.d (.lst Ls)), some (.d f), some (.d (.lst Ls')), some (.d x), some (.d y), some (.d z), none] [.lst A, .lst (B ++ [.tup [.lst (Ps ++ [y]), .lst Ls', p], .tup [.lst Ps, .lst Ls', q]])]) := by
  subst h
  have pop := pop_ref (S := [.lst A, .lst (B ++ [.tup [.lst Ps, .lst Ls, f]])]) (n := 1) rfl
  have ty : W.ty [.lst A, .lst (B ++ [.tup [.lst Ps, .lst Ls, f]])] (.ref 1) = some "list" := ty_ref (S := [.lst A, .lst (B ++ [.tup [.lst Ps, .lst Ls, f]])]) (n := 1) rfl
  have ap1 := append_ref (S := [.lst A, .lst B]) (n := 1) (x := .tup [.lst (Ps ++ [y]), .lst Ls', p]) rfl (by omega)
  have ap2 := append_ref (S := [.lst A, .lst (B ++ [.tup [.lst (Ps ++ [y]), .lst Ls', p]])]) (n := 1) (x := .tup [.lst Ps, .lst Ls', q]) rfl (by simp; omega)
  have ty1 : W.ty [.lst A, .lst B] (.ref 1) = some "list" := ty_ref (S := [.lst A, .lst B]) (n := 1) rfl
  have ty2 : W.ty [.lst A, .lst (B ++ [.tup [.lst (Ps ++ [y]), .lst Ls', p]])] (.ref 1) = some "list" := ty_ref (S := [.lst A, .lst (B ++ [.tup [.lst (Ps ++ [y]), .lst Ls', p]])]) (n := 1) rfl
  have ne : ∀ S, gNe (.d (.lst (.tup [x, y, z] :: r))) (.d (.lst [])) S = some (.d (.bl true), S) := fun S => gNe_emp hs
  have eq : ∀ S, gEq (.d (.lst (.tup [x, y, z] :: r))) (.d (.lst [])) S = some (.d (.bl false), S) := fun S => gEq_emp hs
  obtain ⟨u, r1, r2⟩ := rs [.lst A, .lst (B ++ [.tup [.lst (Ps ++ [y]), .lst Ls', p]])]
  have hz : Ps.length + 1 ≤ sizeLine := by rw [sizeLine_eq]; omega
  unfold lcOn at on
  simp -implicitDefEqProofs [bRS, ty, pop, on, n0, ne, eq, wo, m1, ty1, ap1, ty2, ap2, r1, r2, sz3, mStarC_run, seq_lst, give_star, hz]
end
theorem turn {many : Nat} {T : List Tie} {one : Int} {net : D} {k : Nat} {env : MW.Env} {S : Sto} {F : List FI} {s : List SI} (hm : many ≤ 10) (hN : dn T < 2 ^ 90) (h : RI many T one net k env S F s) :
    (mTest (mBin (gNe) (mVar 3) (mList .pure mNil)) env S = some (false, S) ∧ s = []) ∨ (mTest (mBin (gNe) (mVar 3) (mList .pure mNil)) env S = some (true, S) ∧ ∃ e2 S2 j F2 s2, bRS env S = some (.nx e2 S2) ∧ j < k ∧ RI many T one net j e2 S2 F2 s2) := by
  obtain ⟨v4, v5, v6, v7, v8, v9, v10, v11, rfl⟩ := h.en
  have hP : ∀ i ∈ s, i.1.length ≤ 10 := fun i hi => Nat.le_trans (nd_len (h.so i hi).nd (h.so i hi).rg) hm
  have hsl := mst_len s
  have hsz := h.sz
  have hst := h.st
  have shp : D.shp (.lst (s.map encS)) = true := okD_shp (n := 6) (okD_l (by simp; omega) fun x hx => by
    obtain ⟨i, hi, rfl⟩ := List.mem_map.mp hx
    exact okS i (by have := hP i hi; omega) (by have := (h.so i hi).ln; omega))
  rcases List.eq_nil_or_concat s with rfl | ⟨s', it, rfl⟩
  · left
    subst hst
    exact ⟨tst_nil, rfl⟩
  right
  rw [List.concat_eq_append] at *
  obtain ⟨P, L, w⟩ := it
  rw [List.map_append] at hst shp
  have es : List.map encS [(P, L, w)] = [.tup [.lst (P.map D.int), .lst (L.map Tie.d), fr w]] := rfl
  rw [es] at hst shp
  subst hst
  refine ⟨tst_some shp, ?_⟩
  have ho := h.so (P, L, w) (by simp)
  have hPl := hP (P, L, w) (by simp)
  have hkk := h.kk
  rw [mst_app] at hsz hkk
  simp only [mst, Nat.add_zero] at hsz hkk
  have mp := ms_pos L.length
  have ln := ho.ln
  simp only at ln hPl
  have hs' : ∀ i ∈ s', SOk many (dn T) i := fun i hi => h.so i (List.mem_append_left _ hi)
  have on : ∀ v7 S, lcOn [some (.d net), some (.d (.int one)), some (.ref 0), some (.ref 1), v4, some (.d (.lst (P.map D.int))), some (.d (.lst (L.map Tie.d))), v7, v8, v9, v10, v11, none] S = some (.d (.lst ((L.filter (onE P)).map Tie.d)), S) :=
    fun v7 S => lc_on P L (by omega) _ _ _ _ _ _ _ _ _ _ S
  have n0 := fun S => gNe_fr0 w S
  have shO : D.shp (.lst ((L.filter (onE P)).map Tie.d)) = true := okD_shp (n := 4) (okT _ 0 (Nat.le_trans (List.length_filter_le _ _) (by omega)))
  have hFl : (F.map encF).length < 16777216 := by simp; omega
  have hsl' : (s'.map encS).length < 10000000 := by
    have := mst_len s'
    simp; omega
  have vl := fun G => h.vl G
  have e0 : ∀ G, valS G (s' ++ [(P, L, w)]) = valS G s' + w * RX L P G := fun G => by rw [valS_app, valS_one]
  by_cases hw : w = 0
  · refine ⟨_, _, mst s', F, s', exec0 on (fun S => by rw [n0]; simp [hw]), by omega, ⟨_, _, _, _, _, _, _, _, rfl⟩, rfl, rfl, by omega, hs', h.fo, fun G => ?_⟩
    rw [← vl G, e0, hw]; grind
  · have n1 : ∀ S, gNe (.d (fr w)) (.d (.tup [.int 0, .int 1])) S = some (.d (.bl true), S) := fun S => by rw [n0]; simp [hw]
    cases hon : L.filter (onE P) with
    | nil =>
      refine ⟨_, _, mst s', F ++ [(P, w)], s', exec1 on (by rw [hon]; rfl) n1 hFl, by omega, ⟨_, _, _, _, _, _, _, _, rfl⟩, by rw [List.map_append]; rfl, rfl, by simp; omega, hs', ?_, fun G => ?_⟩
      · intro i hi
        rcases List.mem_append.mp hi with z | z
        · exact h.fo i z
        · rw [List.mem_singleton.mp z]
          obtain ⟨K, hK, hp⟩ := ho.pt
          exact ⟨ho.nd, ho.rg, ho.w0, ho.w1, by rw [← hK]; exact hp.more _⟩
      · rw [← vl G, e0, valF_app, valF_one, RX.stop (filter_nil_of hon)]
        grind
    | cons t r =>
      have htm : t ∈ L.filter (onE P) := by rw [hon]; exact List.mem_cons_self
      obtain ⟨htL, htE⟩ := List.mem_filter.mp htm
      have hta : t.a ∈ P ∧ t.b ∉ P := by
        unfold onE at htE
        simpa using htE
      obtain ⟨L', wo, hperm⟩ := without_ok htL (by omega) ([] : Sto)
      have wo : ∀ S, m_without_one [.d (.lst (L.map Tie.d)), .d (.tup [.int t.a, .int t.b, fr t.c])] S = some (.d (.lst (L'.map Tie.d)), S) := fun S => by
        have := wo
        show callP (runPure 3 2 b_without_one) [.d (.lst (L.map Tie.d)), .d (.tup [.int t.a, .int t.b, fr t.c])] S = _
        have h2 : callP (runPure 3 2 b_without_one) [.d (.lst (L.map Tie.d)), .d (.tup [.int t.a, .int t.b, fr t.c])] [] = some (.d (.lst (L'.map Tie.d)), []) := this
        rw [callP_2] at h2 ⊢
        cases e : runPure 3 2 b_without_one [.lst (L.map Tie.d), .tup [.int t.a, .int t.b, fr t.c]] with
        | none => rw [e] at h2; cases h2
        | some x => rw [e] at h2; cases h2; rfl
      have hlen := hperm.length_eq
      simp only [List.length_cons] at hlen
      have tok := ho.ts t htL
      obtain ⟨K, hK, hp⟩ := ho.pt
      simp only at hK hp
      have hKpos : K ≠ 0 := fun z => by
        have := dn_pos T
        rw [← hK, z] at this
        simp at this
      have hdn := dn_perm hperm
      simp only [dn] at hdn
      have hcp : Part t.c t.c.den := Part.self t.c
      have hKN : K < 2 ^ 90 := by
        have : K * 1 ≤ K * dn L := Nat.mul_le_mul_left K (dn_pos L)
        omega
      have zw : Sz w 90 := hp.sz hKpos hKN ho.w0 ho.w1
      have zc : Sz t.c 7 := hcp.sz t.c.den_nz tok.cd tok.c0 tok.c1
      have r0 : 0 ≤ 1 - t.c := by have := tok.c1; grind
      have r1 : 1 - t.c ≤ 1 := by have := tok.c0; grind
      have zr : Sz (1 - t.c) 7 := hcp.rest.sz t.c.den_nz tok.cd r0 r1
      have m1 := fun S => multiply_ok zw zc (by decide) (by decide) (by decide) S
      have m2 := fun S => multiply_ok zw zr (by decide) (by decide) (by decide) S
      have L'ok : ∀ x ∈ L', TOk many x := fun x hx => ho.ts x (hperm.mem_iff.mpr (List.mem_cons_of_mem _ hx))
      have hms : ms L.length = 2 * ms L'.length + 1 := by rw [hlen]; rfl
      have prod : ∀ c : Rat, 0 ≤ c → c ≤ 1 → 0 ≤ w * c ∧ w * c ≤ 1 := fun c h0 h1 => by
        have w0 : 0 ≤ w := ho.w0
        have w1 : w ≤ 1 := ho.w1
        refine ⟨Rat.mul_nonneg w0 h0, ?_⟩
        have := Rat.mul_le_mul_of_nonneg_left h1 w0
        grind
      have pt2 : ∀ c : Rat, Part c t.c.den → ∃ K' : Nat, K' * dn L' = dn T ∧ Part (w * c) K' := fun c hc => ⟨K * t.c.den, by rw [Nat.mul_assoc, ← hdn]; exact hK, hp.mul hc⟩
      have es2 : List.map encS [(P ++ [t.b], L', w * t.c), (P, L', w * (1 - t.c))] = [.tup [.lst (P.map D.int ++ [.int t.b]), .lst (L'.map Tie.d), fr (w * t.c)], .tup [.lst (P.map D.int), .lst (L'.map Tie.d), fr (w * (1 - t.c))]] := by
        simp [encS]
      refine ⟨_, _, mst (s' ++ [(P ++ [t.b], L', w * t.c), (P, L', w * (1 - t.c))]), F, s' ++ [(P ++ [t.b], L', w * t.c), (P, L', w * (1 - t.c))],
        exec2 (x := .int t.a) (y := .int t.b) (z := fr t.c) (p := fr (w * t.c)) (q := fr (w * (1 - t.c))) (r := r.map Tie.d) on (by rw [hon]; rfl) shO n1 hsl' (by simp; omega) wo m1 (fun S => ⟨_, rest_ok _ S, m2 S⟩),
        ?_, ⟨_, _, _, _, _, _, _, _, rfl⟩, by rw [List.map_append, es2], rfl, ?_, ?_, h.fo, fun G => ?_⟩
      · rw [mst_app]; simp only [mst]; omega
      · rw [mst_app]; simp only [mst]; omega
      · intro i hi
        rcases List.mem_append.mp hi with z | z
        · exact hs' i z
        · simp only [List.mem_cons, List.not_mem_nil, or_false] at z
          rcases z with rfl | rfl
          · refine ⟨?_, ?_, L'ok, by show L'.length ≤ 12; omega, (prod _ tok.c0 tok.c1).1, (prod _ tok.c0 tok.c1).2, pt2 _ hcp⟩
            · refine List.nodup_append.mpr ⟨ho.nd, by simp, ?_⟩
              intro a ha b hb e
              rw [List.mem_singleton.mp hb] at e
              exact hta.2 (e ▸ ha)
            · intro x hx
              rcases List.mem_append.mp hx with q | q
              · exact ho.rg x q
              · rw [List.mem_singleton.mp q]; exact ⟨tok.b0, tok.b1⟩
          · exact ⟨ho.nd, ho.rg, L'ok, by show L'.length ≤ 12; omega, (prod _ r0 r1).1, (prod _ r0 r1).2, pt2 _ hcp.rest⟩
      · rw [← vl G, e0, valS_app, RX.front hperm hta.1 G]
        have q := RX.perm (List.Perm.refl L') (P := P ++ [t.b]) (P' := t.b :: P) (fun x => by simp [or_comm]) G
        simp only [valS, List.map_cons, List.map_nil, sumR]
        rw [q]
        grind
theorem reached_ok {many : Nat} {T : List Tie} {one : Int} (hm : many ≤ 10) (hl : T.length ≤ 12) (ht : ∀ t ∈ T, TOk many t) (h0 : 0 ≤ one) (h1 : one < many) (S : Sto) :
    ∃ F : List FI, m_reached_sets [.d (netD many T), .d (.int one)] S = some (.d (.lst (F.map encF)), S) ∧ F.length ≤ 8191 ∧ (∀ i ∈ F, FOk many (dn T) i) ∧ ∀ G, valF G F = RX T [one] G := by
  have hN : dn T < 2 ^ 90 := Nat.lt_of_le_of_lt (dn_lt T ht) (Nat.pow_lt_pow_right (by decide) (by omega))
  have hms : ∀ n ≤ 12, ms n ≤ 8191 := by decide
  have mono := hms T.length hl
  have st : RI many T one (netD many T) (mst [([one], T, 1)]) [some (.d (netD many T)), some (.d (.int one)), some (.ref 0), some (.ref 1), none, none, none, none, none, none, none, none, none] [.lst [], .lst [.tup [.lst [.int one], .lst (T.map Tie.d), .tup [.int 1, .int 1]]]] [] [([one], T, 1)] := by
    refine ⟨⟨_, _, _, _, _, _, _, _, rfl⟩, rfl, rfl, by simp [mst]; omega, ?_, (fun i hi => by cases hi), fun G => ?_⟩
    · intro i hi
      rw [List.mem_singleton.mp hi]
      exact ⟨by simp, fun x hx => by rw [List.mem_singleton.mp hx]; exact ⟨h0, h1⟩, ht, hl, (by decide : (0 : Rat) ≤ 1), Rat.le_refl, 1, by simp, 1, by simp⟩
    · rw [valS_one]
      simp only [valF, List.map_nil, sumR]
      grind
  obtain ⟨e', S', j, w1, ⟨F, s, hR⟩, w3⟩ := whileM_ok (t := mTest (mBin (gNe) (mVar 3) (mList .pure mNil))) (b := bRS) (fun k env S => ∃ F s, RI many T one (netD many T) k env S F s) (fun k env S ⟨F, s, h⟩ => by
    rcases turn hm hN h with ⟨q, _⟩ | ⟨q, e2, S2, j, F2, s2, q1, q2, q3⟩
    · exact .inl q
    · exact .inr ⟨q, e2, S2, j, q1, q2, F2, s2, q3⟩) 20000 _ _ _ (by simp [mst]; omega) ⟨[], _, st⟩
  have hnil : s = [] := by
    rcases turn hm hN hR with ⟨_, q⟩ | ⟨q, _⟩
    · exact q
    · rw [q] at w3; cases w3
  subst hnil
  obtain ⟨v4, v5, v6, v7, v8, v9, v10, v11, rfl⟩ := hR.en
  have hst := hR.st
  subst hst
  refine ⟨F, ?_, by have := hR.sz; simp [mst] at this; omega, hR.fo, fun G => ?_⟩
  · have en : netD many T = .tup [.int many, .tup (T.map Tie.d)] := rfl
    have lo : ∀ S, gListOf .pure [.d (.tup (T.map Tie.d))] S = some (.d (.lst (T.map Tie.d)), S) := fun S => (rfl : _ = _).trans rfl
    have eb : b_reached_sets = (sSeq (sPar 2 3 (mCons (mList .own mNil) (mCons (mList .own (mCons (mTup (mCons (mList .pure (mCons (mVar 1) mNil)) (mCons (mCall (gListOf .pure) (mCons (mBin gIx (mVar 0) (mC (.int 1))) mNil)) (mCons (mC (.tup [(.int 1), (.int 1)])) mNil)))) mNil)) mNil)))
  (sSeq (sWhile (fuelN 20000) (mTest (mBin (gNe) (mVar 3) (mList .pure mNil))) bRS)
  (sRet (mVar 2)))) := rfl
    have z1 : 1 ≤ sizeLine := by rw [sizeLine_eq]; decide
    rw [en] at w1 ⊢
    simp -implicitDefEqProofs [m_reached_sets, runPure, eb, startE, lo, sWhile, fuelN, w1, sz3, z1]
  · have := hR.vl G
    simp only [valS, List.map_nil, sumR] at this
    grind
end K50
end
section
set_option maxRecDepth 100000
namespace K50
open PySem L2 MW
theorem sumR_ge : ∀ {ws : List Rat}, (∀ w ∈ ws, 0 ≤ w) → 0 ≤ sumR ws
  | [], _ => Rat.le_refl
  | w :: ws, h => Rat.add_nonneg (h w List.mem_cons_self) (sumR_ge fun x hx => h x (List.mem_cons_of_mem _ hx))
theorem part_le (q : FI → Bool) : ∀ {F : List FI}, (∀ i ∈ F, 0 ≤ i.2) → sumR ((F.filter q).map (·.2)) ≤ sumR (F.map (·.2))
  | [], _ => Rat.le_refl
  | i :: F, h => by
    have ih := part_le q fun x hx => h x (List.mem_cons_of_mem _ hx)
    have h0 := h i List.mem_cons_self
    by_cases hq : q i = true
    · rw [List.filter_cons_of_pos hq]
      simp only [List.map_cons, sumR]
      grind
    · rw [List.filter_cons_of_neg hq]
      simp only [List.map_cons, sumR]
      grind
theorem part_val (q : FI → Bool) (G : (Int → Prop) → Prop) : ∀ {F : List FI}, (∀ i ∈ F, (q i = true ↔ G fun x => x ∈ i.1)) → sumR ((F.filter q).map (·.2)) = valF G F
  | [], _ => rfl
  | i :: F, h => by
    have ih := part_val q G fun x hx => h x (List.mem_cons_of_mem _ hx)
    have h0 := h i List.mem_cons_self
    have e : valF G (i :: F) = i.2 * ind (G fun x => x ∈ i.1) + valF G F := rfl
    by_cases hq : q i = true
    · rw [List.filter_cons_of_pos hq, e, ind_t (h0.mp hq)]
      simp only [List.map_cons, sumR]
      grind
    · rw [List.filter_cons_of_neg hq, e, ind_f (fun z => hq (h0.mpr z))]
      grind
/-- the part of what is found that is asked for, added up -/
theorem add_part {many : Nat} {T : List Tie} {one : Int} {F : List FI} (hl : T.length ≤ 12) (ht : ∀ t ∈ T, TOk many t) (fo : ∀ i ∈ F, FOk many (dn T) i) (vl : ∀ G, valF G F = RX T [one] G) (q : FI → Bool) (G : (Int → Prop) → Prop) (hq : ∀ i ∈ F, (q i = true ↔ G fun x => x ∈ i.1)) (S : Sto) :
    m_sum_of [.d (.lst (((F.filter q).map (·.2)).map fr))] S = some (.d (fr (RX T [one] G)), S) := by
  have hN : dn T < 2 ^ 90 := Nat.lt_of_le_of_lt (dn_lt T ht) (Nat.pow_lt_pow_right (by decide) (by omega))
  have e := part_val q G hq
  rw [vl] at e
  rw [← e]
  refine sum_of_ok (d := dn T) (B := 90) (by have := dn_pos T; omega) hN (by decide) (by decide) ?_ ?_ S
  · intro w hw
    obtain ⟨i, hi, rfl⟩ := List.mem_map.mp hw
    have := fo i (List.mem_filter.mp hi).1
    exact ⟨this.w0, this.pt⟩
  · refine Rat.le_trans (part_le q fun i hi => (fo i hi).w0) ?_
    have h1 := part_val (fun _ => true) (fun _ => True) (F := F) fun i _ => by simp
    rw [List.filter_eq_self.mpr fun _ _ => rfl, vl, RX.one] at h1
    rw [h1]
    exact Rat.le_refl
def ofF : D → FI
  | .tup [.lst ps, f] => (ps.map fun | .int i => i | _ => 0, rvD f)
  | _ => ([], 0)
theorem ofF_enc (i : FI) : ofF (encF i) = i := by
  show ((i.1.map D.int).map _, rvD (fr i.2)) = i
  rw [rvD_fr, List.map_map]
  have : (i.1.map ((fun | .int i => i | _ => 0) ∘ D.int)) = i.1 := List.map_id'' (fun _ => rfl) _
  rw [this]
theorem lc_part (q : FI → Bool) (F : List FI) : ((F.map encF).filter fun x => q (ofF x)).map (fun x => fr (ofF x).2) = ((F.filter q).map (·.2)).map fr := by
  have e : (fun x => q (ofF x)) ∘ encF = q := funext fun i => by
    show q (ofF (encF i)) = q i
    rw [ofF_enc]
  rw [List.filter_map, e, List.map_map, List.map_map]
  refine List.map_congr_left fun i _ => ?_
  show fr (ofF (encF i)).2 = fr i.2
  rw [ofF_enc]
section
variable {many : Nat} {T : List Tie} {one other : Int}
theorem reach_of_ok (hm : many ≤ 10) (hl : T.length ≤ 12) (ht : ∀ t ∈ T, TOk many t) (h0 : 0 ≤ one) (h1 : one < many) (S : Sto) :
    m_reach_of [.d (netD many T), .d (.int one), .d (.int other)] S = some (.d (fr (RX T [one] fun R => R other)), S) := by
  obtain ⟨F, k1, k2, k3, k4⟩ := reached_ok hm hl ht h0 h1 ([] : Sto)
  have ad := add_part hl ht k3 k4 (fun i => decide (other ∈ i.1)) (fun R => R other) (fun i _ => by simp) ([] : Sto)
  have lc : ∀ net : D, m_reached_sets [.d net, .d (.int one)] ([] : Sto) = some (.d (.lst (F.map encF)), []) → mLc .pure (miSeq (mCall m_reached_sets (mCons (mVar 0) (mCons (mVar 1) mNil)))) (.tp [3, 4]) (mTest (mBin (gIn false) (mVar 2) (mVar 3))) (mVar 4) [3, 4] [some (.d net), some (.d (.int one)), some (.d (.int other)), none, none] [] =
      some (.d (.lst (((F.filter fun i => decide (other ∈ i.1)).map (·.2)).map fr)), []) := fun net hnet => by
    rw [← lc_part]
    refine mLc_d rfl (miSeq_lst (by simp -implicitDefEqProofs [hnet])) _ _ ?_ (by simp; omega)
    intro x hx
    obtain ⟨i, _, rfl⟩ := List.mem_map.mp hx
    refine ⟨[some (.d net), some (.d (.int one)), some (.d (.int other)), some (.d (.lst (i.1.map D.int))), some (.d (fr i.2))], rfl, ?_, fun _ => ?_⟩
    · rw [ofF_enc]
      simp -implicitDefEqProofs [gIn_lst]
    · rw [ofF_enc]
      rfl
  have lc' := lc _ k1
  have en : netD many T = .tup [.int many, .tup (T.map Tie.d)] := rfl
  rw [en] at lc' ⊢
  simp -implicitDefEqProofs [-List.map_map, m_reach_of, runPure, b_reach_of, startE, lc', ad]
theorem all_iff {P : List Int} (h1 : P.Nodup) (h2 : ∀ x ∈ P, 0 ≤ x ∧ x < many) : P.length = many ↔ ∀ x : Int, 0 ≤ x → x < many → x ∈ P := by
  have hr : ((List.range many).map (fun i : Nat => (i : Int))).Nodup := List.Pairwise.map _ (fun a b h e => h (by exact_mod_cast e)) List.nodup_range
  have hp : P.Perm (((List.range many).map (fun i : Nat => (i : Int))).filter fun x => decide (x ∈ P)) := by
    refine (List.perm_ext_iff_of_nodup h1 (List.Pairwise.filter _ hr)).mpr fun x => ?_
    rw [List.mem_filter]
    constructor
    · intro hx
      obtain ⟨a, b⟩ := h2 x hx
      exact ⟨List.mem_map.mpr ⟨x.toNat, by simp; omega, by omega⟩, by simpa using hx⟩
    · rintro ⟨_, hx⟩
      simpa using hx
  have hl := hp.length_eq
  have hl2 : ((List.range many).map (fun i : Nat => (i : Int))).length = many := by simp
  constructor
  · intro e x x0 x1
    rw [e] at hl
    have := List.length_filter_eq_length_iff.mp (hl.symm.trans hl2.symm)
    have := this x (List.mem_map.mpr ⟨x.toNat, by simp; omega, by omega⟩)
    simpa using this
  · intro h
    rw [hl, List.filter_eq_self.mpr fun x hx => ?_, hl2]
    obtain ⟨i, hi, rfl⟩ := List.mem_map.mp hx
    have : i < many := by simpa using hi
    have := h (i : Int) (by omega) (by omega)
    simpa using this
/-- all places are reached -/
def AllR (many : Nat) (R : Int → Prop) : Prop := ∀ x : Int, 0 ≤ x → x < many → R x
theorem reach_all_ok (hm0 : 1 ≤ many) (hm : many ≤ 10) (hl : T.length ≤ 12) (ht : ∀ t ∈ T, TOk many t) (hs : (T.map Tie.d).Pairwise fun x y => D.lt y x = false) (h0 : 0 ≤ one) (h1 : one < many) (S : Sto) :
    m_reach_all [.d (netD many T), .d (.int one)] S = some (.d (fr (RX T [one] (AllR many))), S) := by
  obtain ⟨F, k1, k2, k3, k4⟩ := reached_ok hm hl ht h0 h1 ([] : Sto)
  have c1 := check_ok (many := many) (by omega) (by omega) hl ht hs ([] : Sto)
  have c2 := check_place_ok (many := many) (T := T) h0 h1 ([] : Sto)
  have ad := add_part hl ht k3 k4 (fun i => decide ((i.1.length : Int) = many)) (AllR many) (fun i hi => by
    have := all_iff (k3 i hi).nd (k3 i hi).rg
    rw [decide_eq_true_eq, show ((i.1.length : Int) = many) ↔ i.1.length = many by omega]
    exact this) ([] : Sto)
  have lc : ∀ ts : D, m_reached_sets [.d (.tup [.int many, ts]), .d (.int one)] ([] : Sto) = some (.d (.lst (F.map encF)), []) → mLc .pure (miSeq (mCall m_reached_sets (mCons (mVar 0) (mCons (mVar 1) mNil)))) (.tp [2, 3]) (mTest (mBin (gEq) (mCall gLen (mCons (mVar 2) mNil)) (mBin gIx (mVar 0) (mC (.int 0))))) (mVar 3) [2, 3] [some (.d (.tup [.int many, ts])), some (.d (.int one)), none, none] [] =
      some (.d (.lst (((F.filter fun i => decide ((i.1.length : Int) = many)).map (·.2)).map fr)), []) := fun net hnet => by
    rw [← lc_part]
    refine mLc_d rfl (miSeq_lst (by simp -implicitDefEqProofs [hnet])) _ _ ?_ (by simp; omega)
    intro x hx
    obtain ⟨i, _, rfl⟩ := List.mem_map.mp hx
    refine ⟨[some (.d (.tup [.int many, net])), some (.d (.int one)), some (.d (.lst (i.1.map D.int))), some (.d (fr i.2))], rfl, ?_, fun _ => ?_⟩
    · rw [ofF_enc]
      simp -implicitDefEqProofs
    · rw [ofF_enc]
      rfl
  have en : netD many T = .tup [.int many, .tup (T.map Tie.d)] := rfl
  rw [en] at c1 c2 k1 ⊢
  have lc' := lc _ k1
  simp -implicitDefEqProofs [-List.map_map, m_reach_all, runPure, b_reach_all, startE, lc', ad, c1, c2]
theorem reach_chance_ok (hm0 : 1 ≤ many) (hm : many ≤ 10) (hl : T.length ≤ 12) (ht : ∀ t ∈ T, TOk many t) (hs : (T.map Tie.d).Pairwise fun x y => D.lt y x = false) (h0 : 0 ≤ one) (h1 : one < many) (k0 : 0 ≤ other) (k1 : other < many) (S : Sto) :
    m_reach_chance [.d (netD many T), .d (.int one), .d (.int other)] S = some (.d (fr (RX T [one] fun R => R other)), S) := by
  have c1 := check_ok (many := many) (by omega) (by omega) hl ht hs ([] : Sto)
  have c2 := check_place_ok (many := many) (T := T) h0 h1 ([] : Sto)
  have c3 := check_place_ok (many := many) (T := T) k0 k1 ([] : Sto)
  have r := reach_of_ok (other := other) hm hl ht h0 h1 ([] : Sto)
  simp -implicitDefEqProofs [m_reach_chance, runPure, b_reach_chance, startE, c1, c2, c3, r]
/-- the chances of all places -/
noncomputable def rowD (many : Nat) (T : List Tie) (one : Int) : List D := (List.range many).map fun i : Nat => fr (RX T [one] fun R => R (i : Int))
theorem reached_chances_ok (hm0 : 1 ≤ many) (hm : many ≤ 10) (hl : T.length ≤ 12) (ht : ∀ t ∈ T, TOk many t) (hs : (T.map Tie.d).Pairwise fun x y => D.lt y x = false) (h0 : 0 ≤ one) (h1 : one < many) (S : Sto) :
    m_reached_chances [.d (netD many T), .d (.int one)] S = some (.d (.tup (rowD many T one)), S) := by
  have c1 := check_ok (many := many) (by omega) (by omega) hl ht hs ([] : Sto)
  have c2 := check_place_ok (many := many) (T := T) h0 h1 ([] : Sto)
  have r := fun other => reach_of_ok (other := other) hm hl ht h0 h1 ([] : Sto)
  have lc : mLc .pure (miRange1 (mCons (mBin gIx (mVar 0) (mC (.int 0))) mNil)) (.nm 2) tYesM (mCall m_reach_of (mCons (mVar 0) (mCons (mVar 1) (mCons (mVar 2) mNil)))) [2] [some (.d (netD many T)), some (.d (.int one)), none] [] = some (.d (.lst (rowD many T one)), []) := by
    have e : rowD many T one = ((upFrom 0 many).filter fun _ => true).map fun x => match x with | .int i => fr (RX T [one] fun R => R i) | _ => .non := by
      rw [List.filter_eq_self.mpr fun _ _ => rfl]
      unfold rowD upFrom
      rw [List.map_map]
      refine List.map_congr_left fun i _ => ?_
      show _ = fr (RX T [one] fun R => R (0 + (i : Int)))
      rw [Int.zero_add]
    rw [e]
    have hr : (many : Int) < 4611686018427387904 := by omega
    refine mLc_d rfl ?_ _ _ ?_ (by simp [upFrom]; omega)
    · have en : netD many T = .tup [.int many, .tup (T.map Tie.d)] := rfl
      rw [en]
      simp -implicitDefEqProofs [miRange1, hr]
    · intro x hx
      obtain ⟨i, _, rfl⟩ := upFrom_mem hx
      refine ⟨[some (.d (netD many T)), some (.d (.int one)), some (.d (.int (0 + i)))], rfl, rfl, fun _ => ?_⟩
      simp -implicitDefEqProofs [r]
  have gt : ∀ xs S, gTupOf [.d (.lst xs)] S = some (.d (.tup xs), S) := fun _ _ => (rfl : _ = _).trans rfl
  simp -implicitDefEqProofs [m_reached_chances, runPure, b_reached_chances, startE, c1, c2, lc, gt]
end
end K50
end
section
set_option maxRecDepth 100000
namespace K50
open PySem L2 MW
/-! ### the law's own spreading -/
def tk (T : List Tie) (k : Nat) : Tie := T[k]?.getD ⟨0, 0, 0⟩
def rem (n : Nat) (K : List Int) : List Nat := (List.range n).filter fun k => !decide ((k : Int) ∈ K)
def lv (T : List Tie) (K : List Int) : List Tie := (rem T.length K).map (tk T)
theorem tk_get {T : List Tie} {k : Nat} (h : k < T.length) : tk T k = T[k] := by unfold tk; rw [List.getElem?_eq_getElem h]; rfl
theorem tk_mem {T : List Tie} {k : Nat} (h : k < T.length) : tk T k ∈ T := by rw [tk_get h]; exact List.getElem_mem h
theorem rem_mem {n : Nat} {K : List Int} {k : Nat} : k ∈ rem n K ↔ k < n ∧ (k : Int) ∉ K := by
  unfold rem
  rw [List.mem_filter]
  simp
theorem rem_nd (n : Nat) (K : List Int) : (rem n K).Nodup := List.Pairwise.filter _ List.nodup_range
theorem rem_perm {n : Nat} {K : List Int} {k : Nat} (h : k ∈ rem n K) : (rem n K).Perm (k :: rem n (K ++ [(k : Int)])) := by
  refine (List.perm_ext_iff_of_nodup (rem_nd n K) (List.nodup_cons.mpr ⟨?_, rem_nd _ _⟩)).mpr fun j => ?_
  · rw [rem_mem]; simp
  · rw [List.mem_cons, rem_mem, rem_mem, List.mem_append, List.mem_singleton]
    rw [rem_mem] at h
    constructor
    · rintro ⟨a, b⟩
      by_cases e : j = k
      · exact .inl e
      · exact .inr ⟨a, fun z => z.elim b fun q => e (by exact_mod_cast q)⟩
    · rintro (rfl | ⟨a, b⟩)
      · exact h
      · exact ⟨a, fun z => b (.inl z)⟩
theorem lv_perm {T : List Tie} {K : List Int} {k : Nat} (h : k ∈ rem T.length K) : (lv T K).Perm (tk T k :: lv T (K ++ [(k : Int)])) := (rem_perm h).map (tk T)
theorem lv_all (T : List Tie) : lv T [] = T := by
  unfold lv
  have : rem T.length [] = List.range T.length := by unfold rem; simp
  rw [this]
  refine List.ext_getElem (by simp) fun i h1 h2 => ?_
  rw [List.getElem_map, List.getElem_range, tk_get h2]
theorem lv_mem {T : List Tie} {K : List Int} {t : Tie} (h : t ∈ lv T K) : t ∈ T := by
  obtain ⟨k, hk, rfl⟩ := List.mem_map.mp h
  exact tk_mem (rem_mem.mp hk).1
abbrev SJ := List Int × List Int × Int
abbrev FJ := List Int × Int
def enS (i : SJ) : D := .tup [.tup (i.1.map D.int), .tup (i.2.1.map D.int), .int i.2.2]
def enF (i : FJ) : D := .tup [.tup (i.1.map D.int), .int i.2]
structure JOk (T : List Tie) (many : Int) (i : SJ) : Prop where
  nd : i.1.Nodup
  rg : ∀ x ∈ i.1, 0 ≤ x ∧ x < many
  w0 : 0 ≤ i.2.2
  wd : i.2.2 * dn (lv T i.2.1) ≤ dn T
  kl : i.2.1.length + (lv T i.2.1).length ≤ 12
structure GOk (N : Nat) (many : Int) (i : FJ) : Prop where
  nd : i.1.Nodup
  rg : ∀ x ∈ i.1, 0 ≤ x ∧ x < many
  w0 : 0 ≤ i.2
  w1 : i.2 ≤ N
def mjt (T : List Tie) : List SJ → Nat
  | [] => 0
  | i :: l => ms (lv T i.2.1).length + mjt T l
theorem mjt_app (T : List Tie) : ∀ a b : List SJ, mjt T (a ++ b) = mjt T a + mjt T b
  | [], b => by simp [mjt]
  | i :: a, b => by simp only [List.cons_append, mjt, mjt_app T a b]; omega
theorem mjt_len (T : List Tie) : ∀ l : List SJ, l.length ≤ mjt T l
  | [] => Nat.le_refl _
  | i :: l => by
    have := ms_pos (lv T i.2.1).length
    have := mjt_len T l
    simp only [List.length_cons, mjt]
    omega
theorem mjt_filter (T : List Tie) (q : SJ → Bool) : ∀ l : List SJ, mjt T (l.filter q) ≤ mjt T l
  | [] => Nat.le_refl _
  | i :: l => by
    have ih := mjt_filter T q l
    by_cases h : q i = true
    · rw [List.filter_cons_of_pos h]; simp only [mjt]; omega
    · rw [List.filter_cons_of_neg h]; simp only [mjt]; omega
noncomputable def vaF (G : (Int → Prop) → Prop) (F : List FJ) : Rat := sumR (F.map fun i => (i.2 : Rat) * ind (G fun x => x ∈ i.1))
noncomputable def vaS (T : List Tie) (G : (Int → Prop) → Prop) (s : List SJ) : Rat := sumR (s.map fun i => (i.2.2 : Rat) * (dn (lv T i.2.1) : Rat) * RX (lv T i.2.1) i.1 G)
theorem vaF_app (G : (Int → Prop) → Prop) (a b : List FJ) : vaF G (a ++ b) = vaF G a + vaF G b := by unfold vaF; rw [List.map_append, sumR_append]
theorem vaS_app (T : List Tie) (G : (Int → Prop) → Prop) (a b : List SJ) : vaS T G (a ++ b) = vaS T G a + vaS T G b := by unfold vaS; rw [List.map_append, sumR_append]
theorem vaF_one (G : (Int → Prop) → Prop) (i : FJ) : vaF G [i] = i.2 * ind (G fun x => x ∈ i.1) := by simp only [vaF, List.map_cons, List.map_nil, sumR]; grind
theorem vaS_one (T : List Tie) (G : (Int → Prop) → Prop) (i : SJ) : vaS T G [i] = i.2.2 * (dn (lv T i.2.1) : Rat) * RX (lv T i.2.1) i.1 G := by simp only [vaS, List.map_cons, List.map_nil, sumR]; grind
/-- what weighs nothing adds nothing -/
theorem vaS_filter (T : List Tie) (G : (Int → Prop) → Prop) : ∀ l : List SJ, (∀ i ∈ l, 0 ≤ i.2.2) → vaS T G (l.filter fun i => decide (0 < i.2.2)) = vaS T G l
  | [], _ => rfl
  | i :: l, h => by
    have ih := vaS_filter T G l fun x hx => h x (List.mem_cons_of_mem _ hx)
    have e : ∀ l' : List SJ, vaS T G (i :: l') = i.2.2 * (dn (lv T i.2.1) : Rat) * RX (lv T i.2.1) i.1 G + vaS T G l' := fun _ => rfl
    by_cases hp : 0 < i.2.2
    · rw [List.filter_cons_of_pos (by simpa using hp), e, e, ih]
    · have z : i.2.2 = 0 := by have := h i List.mem_cons_self; omega
      rw [List.filter_cons_of_neg (by simpa using hp), e, ih, z]
      simp only [Rat.intCast_zero, Rat.zero_mul]
      exact (Rat.zero_add _).symm
theorem forM_meas {k : Wk} {g : MG} {b : MS} (hk : ∀ S, k.ok S = true) (I : Nat → MW.Env → Sto → Prop) (step : ∀ x n env S, I n env S → ∃ env1 S1, g (.d x) env S = some (env1, S1) ∧
    ((n = 0 ∧ ∃ e2 S2, b env1 S1 = some (.bk e2 S2) ∧ I 0 e2 S2) ∨ ∃ e2 S2 j, b env1 S1 = some (.nx e2 S2) ∧ j < n ∧ I j e2 S2)) :
    ∀ (r : List D) (n : Nat) (env : MW.Env) (S : Sto), n ≤ r.length → I n env S → ∃ e' S', MW.forM k g b r env S = some (.nx e' S') ∧ I 0 e' S'
  | [], n, env, S, hn, hI => by
    have : n = 0 := by simpa using hn
    subst this
    exact ⟨env, S, by simp [MW.forM, hk], hI⟩
  | x :: r, n, env, S, hn, hI => by
    obtain ⟨env1, S1, h1, h⟩ := step x n env S hI
    rcases h with ⟨rfl, e2, S2, h2, h3⟩ | ⟨e2, S2, j, h2, h3, h4⟩
    · refine ⟨e2, S2, ?_, h3⟩
      unfold MW.forM
      rw [if_pos (hk _), h1]
      simp only [Option.bind_some, h2]
    · obtain ⟨e', S', q1, q2⟩ := forM_meas hk I step r j e2 S2 (by simp at hn; omega) h4
      refine ⟨e', S', ?_, q2⟩
      unfold MW.forM
      rw [if_pos (hk _), h1]
      simp only [Option.bind_some, h2]
      exact q1
/-- the first that are on the edge -/
def onK (T : List Tie) (P K : List Int) (k : Nat) : Bool := !decide ((k : Int) ∈ K) && (decide ((tk T k).a ∈ P) && !decide ((tk T k).b ∈ P))
theorem gIx_ties {T : List Tie} {k : Nat} (h : k < T.length) (S : Sto) : gIx (.d (.lst (T.map Tie.d))) (.d (.int k)) S = some (.d (tk T k).d, S) := by
  rw [gIx_lst, MW.atI_nat, List.getElem?_map, List.getElem?_eq_getElem h, tk_get h]
  rfl
def lcOut : ME := mLc .pure (miRange1 (mCons (mCall gLen (mCons (mVar 1) mNil)) mNil)) (.nm 14) (mAnd (mTest (mBin (gIn true) (mVar 14) (mVar 12))) (mAnd (mTest (mBin (gIn false) (mBin gIx (mBin gIx (mVar 1) (mVar 14)) (mC (.int 0))) (mVar 11))) (mTest (mBin (gIn true) (mBin gIx (mBin gIx (mVar 1) (mVar 14)) (mC (.int 1))) (mVar 11))))) (mVar 14) [14]
theorem lc_out (T : List Tie) (P K : List Int) (hl : T.length ≤ 1000) (v0 v2 v3 v4 v5 v6 v7 v8 v9 v10 v13 v14 v15 v16 v17 : Option W) (S : Sto) :
    lcOut [v0, some (.d (.lst (T.map Tie.d))), v2, v3, v4, v5, v6, v7, v8, v9, v10, some (.d (.tup (P.map D.int))), some (.d (.tup (K.map D.int))), v13, v14, v15, v16, v17] S =
      some (.d (.lst (((List.range T.length).filter (onK T P K)).map fun k : Nat => D.int k)), S) := by
  have e : ((upFrom 0 T.length).filter fun x => match x with | .int i => onK T P K i.toNat | _ => false).map (fun x => x) = ((List.range T.length).filter (onK T P K)).map fun k : Nat => D.int k := by
    unfold upFrom
    rw [List.map_id', List.filter_map]
    have q : ((fun x => match x with | D.int i => onK T P K i.toNat | _ => false) ∘ fun i : Nat => D.int (0 + (i : Int))) = onK T P K := funext fun i => by
      show onK T P K (0 + (i : Int)).toNat = onK T P K i
      congr 1
      omega
    rw [q]
    refine List.map_congr_left fun i _ => ?_
    rw [Int.zero_add]
  rw [← e]
  have hr : (T.length : Int) < 4611686018427387904 := by omega
  refine mLc_d rfl ?_ _ _ ?_ (by simp [upFrom]; omega)
  · simp -implicitDefEqProofs [miRange1, hr]
  · intro x hx
    obtain ⟨i, hi, rfl⟩ := upFrom_mem hx
    refine ⟨[v0, some (.d (.lst (T.map Tie.d))), v2, v3, v4, v5, v6, v7, v8, v9, v10, some (.d (.tup (P.map D.int))), some (.d (.tup (K.map D.int))), v13, some (.d (.int (0 + i))), v15, v16, v17], rfl, ?_, fun _ => rfl⟩
    have g := gIx_ties hi S
    have e0 : (0 + (i : Int)) = (i : Int) := by omega
    rw [e0]
    have g0 : gIx (.d (tk T i).d) (.d (.int 0)) S = some (.d (.int (tk T i).a), S) := rfl
    have g1 : gIx (.d (tk T i).d) (.d (.int 1)) S = some (.d (.int (tk T i).b), S) := rfl
    show _ = some (onK T P K (i : Int).toNat, S)
    rw [Int.toNat_natCast]
    by_cases h1 : (i : Int) ∈ K <;> by_cases h2 : (tk T i).a ∈ P <;> simp -implicitDefEqProofs [-gIx_lst, g, g0, g1, gIn_tup, onK, h1, h2]
end K50
end
section
set_option maxRecDepth 100000
namespace K50
open PySem L2 MW
def pdk (T : List Tie) (K : List Int) : List Nat → Int
  | [] => 1
  | k :: l => (if (k : Int) ∈ K then 1 else ((tk T k).c.den : Int)) * pdk T K l
theorem pdk_pos (T : List Tie) (K : List Int) : ∀ l, 1 ≤ pdk T K l
  | [] => Int.le_refl _
  | k :: l => by
    have ih := pdk_pos T K l
    have := (tk T k).c.den_pos
    unfold pdk
    split
    · omega
    · have : (1 : Int) * 1 ≤ ((tk T k).c.den : Int) * pdk T K l := Int.mul_le_mul (by omega) ih (by omega) (by omega)
      omega
theorem pdk_dn (T : List Tie) (K : List Int) : ∀ l : List Nat, pdk T K l = (dn ((l.filter fun k : Nat => !decide ((k : Int) ∈ K)).map (tk T)) : Int)
  | [] => rfl
  | k :: l => by
    have ih := pdk_dn T K l
    by_cases h : (k : Int) ∈ K
    · rw [List.filter_cons_of_neg (by simp [h])]
      unfold pdk
      rw [if_pos h, ih, Int.one_mul]
    · rw [List.filter_cons_of_pos (by simp [h])]
      unfold pdk
      rw [if_neg h, ih]
      simp [dn]
def bWt : MS := (sAsg (mBin (gMul .pure) (mVar 13) (mIf (mTest (mBin (gIn false) (mVar 14) (mVar 12))) (mC (.int 1)) (mBin gIx (mBin gIx (mBin gIx (mVar 1) (mVar 14)) (mC (.int 2))) (mC (.int 1))))) (mgName 13))
theorem wt_loop {T : List Tie} {K : List Int} (hc : ∀ t ∈ T, t.c.den < 2 ^ 7) {v0 v2 v3 v4 v5 v6 v7 v8 v9 v10 v11 v15 v16 v17 : Option W} (k : Wk) (S : Sto) (hk : k.ok S = true) : ∀ (l : List Nat) (w : Int) (v14 : Option W), (∀ i ∈ l, i < T.length) → 0 ≤ w → w * pdk T K l < 2 ^ 90 →
    ∃ v14', MW.forM k (mgName 14) bWt (l.map fun i : Nat => D.int (i : Int)) [v0, some (.d (.lst (T.map Tie.d))), v2, v3, v4, v5, v6, v7, v8, v9, v10, v11, some (.d (.tup (K.map D.int))), some (.d (.int w)), v14, v15, v16, v17] S =
      some (.nx [v0, some (.d (.lst (T.map Tie.d))), v2, v3, v4, v5, v6, v7, v8, v9, v10, v11, some (.d (.tup (K.map D.int))), some (.d (.int (w * pdk T K l))), v14', v15, v16, v17] S)
  | [], w, v14, _, _, _ => ⟨v14, by
    unfold pdk
    rw [Int.mul_one]
    simp [MW.forM, hk]⟩
  | i :: l, w, v14, hl, hw, hb => by
    have hi := hl i List.mem_cons_self
    have hp := pdk_pos T K l
    have hd := hc _ (tk_mem hi)
    have g := gIx_ties hi S
    have g2 : gIx (.d (tk T i).d) (.d (.int 2)) S = some (.d (fr (tk T i).c), S) := rfl
    have g3 : gIx (.d (fr (tk T i).c)) (.d (.int 1)) S = some (.d (.int ((tk T i).c.den)), S) := rfl
    have hwb : w.natAbs < 2 ^ 90 := by
      have h1 : 1 ≤ pdk T K (i :: l) := pdk_pos T K _
      have : w * 1 ≤ w * pdk T K (i :: l) := Int.mul_le_mul_of_nonneg_left h1 hw
      have e : (2 : Int) ^ 90 = ((2 ^ 90 : Nat) : Int) := by decide
      omega
    by_cases h : (i : Int) ∈ K
    · have ep : pdk T K (i :: l) = pdk T K l := by
        conv => lhs; unfold pdk
        rw [if_pos h, Int.one_mul]
      obtain ⟨v', ih⟩ := wt_loop (v0 := v0) (v2 := v2) (v3 := v3) (v4 := v4) (v5 := v5) (v6 := v6) (v7 := v7) (v8 := v8) (v9 := v9) (v10 := v10) (v11 := v11) (v15 := v15) (v16 := v16) (v17 := v17) hc k S hk l w (some (.d (.int i))) (fun j hj => hl j (List.mem_cons_of_mem _ hj)) hw (by rw [← ep]; exact hb)
      refine ⟨v', ?_⟩
      have m := gMul_b (mk := .pure) (S := S) (j := 1) (b := 2) hwb (by decide) (by decide) (by decide) (by decide)
      rw [Int.mul_one] at m
      rw [List.map_cons, ep]
      unfold MW.forM
      unfold bWt at ih ⊢
      rw [if_pos hk]
      simp -implicitDefEqProofs [gIn_tup, h, m, ih]
    · have ep : pdk T K (i :: l) = (tk T i).c.den * pdk T K l := by
        conv => lhs; unfold pdk
        rw [if_neg h]
      have hdp := (tk T i).c.den_pos
      obtain ⟨v', ih⟩ := wt_loop (v0 := v0) (v2 := v2) (v3 := v3) (v4 := v4) (v5 := v5) (v6 := v6) (v7 := v7) (v8 := v8) (v9 := v9) (v10 := v10) (v11 := v11) (v15 := v15) (v16 := v16) (v17 := v17) hc k S hk l (w * (tk T i).c.den) (some (.d (.int i))) (fun j hj => hl j (List.mem_cons_of_mem _ hj)) (Int.mul_nonneg hw (by omega)) (by rw [ep, ← Int.mul_assoc] at hb; exact hb)
      refine ⟨v', ?_⟩
      have m := gMul_b (mk := .pure) (S := S) (j := ((tk T i).c.den : Int)) (b := 7) hwb (by rw [Int.natAbs_natCast]; exact hd) (by decide) (by decide) (by decide)
      rw [List.map_cons, ep, ← Int.mul_assoc]
      unfold MW.forM
      unfold bWt at ih ⊢
      rw [if_pos hk]
      simp -implicitDefEqProofs [-gIx_lst, gIn_tup, h, m, g, g2, g3, ih]
def bSP : MS := (sSeq (sIf (mTest (mBin (gEq) (mVar 5) (mList .pure mNil))) sBk sNil)
  (sSeq (sAsg (mMeth "list" gPop (mVar 5) mNil) (mgTup 3 (mgCons (mgName 11) (mgCons (mgName 12) (mgCons (mgName 13) mgNil)))))
  (sSeq (sAsg lcOut (mgName 10))
  (sIf (mTest (mBin (gEq) (mVar 10) (mList .pure mNil))) (sSeq (sFor (miRange1 (mCons (mCall gLen (mCons (mVar 1) mNil)) mNil)) (mgName 14) bWt)
  (sExpr (mMeth "list" gAppend (mVar 6) (mCons (mTup (mCons (mVar 11) (mCons (mVar 13) mNil))) mNil)))) (sSeq (sAsg (mBin gIx (mBin gIx (mVar 1) (mBin gIx (mVar 10) (mC (.int 0)))) (mC (.int 2))) (mgTup 2 (mgCons (mgName 15) (mgCons (mgName 16) mgNil))))
  (sSeq (sExpr (mMeth "list" gAppend (mVar 5) (mCons (mTup (mCons (mBin (gAdd .pure) (mVar 11) (mTup (mCons (mBin gIx (mBin gIx (mVar 1) (mBin gIx (mVar 10) (mC (.int 0)))) (mC (.int 1))) mNil))) (mCons (mBin (gAdd .pure) (mVar 12) (mTup (mCons (mBin gIx (mVar 10) (mC (.int 0))) mNil))) (mCons (mBin (gMul .pure) (mVar 13) (mVar 15)) mNil)))) mNil)))
  (sSeq (sExpr (mMeth "list" gAppend (mVar 5) (mCons (mTup (mCons (mVar 11) (mCons (mBin (gAdd .pure) (mVar 12) (mTup (mCons (mBin gIx (mVar 10) (mC (.int 0))) mNil))) (mCons (mBin (gMul .pure) (mVar 13) (mBin (gInt iSub) (mVar 16) (mVar 15))) mNil)))) mNil)))
  (sAsg (mLc .own (miSeq (mVar 5)) (.nm 17) (mTest (mBin (gInt iGt) (mBin gIx (mVar 17) (mC (.int 2))) (mC (.int 0)))) (mVar 17) [17]) (mgName 5)))))))))
theorem bSP_is : b__law_spread = (sSeq (sPar3 4 5 6 (mCons (mC (.int 1)) (mCons (mList .own (mCons (mTup (mCons (mTup (mCons (mVar 2) mNil)) (mCons (mTup mNil) (mCons (mC (.int 1)) mNil)))) mNil)) (mCons (mList .own mNil) mNil))))
  (sSeq (sFor (miSeq (mVar 1)) (mgTup 3 (mgCons (mgName 7) (mgCons (mgName 8) (mgCons (mgName 9) mgNil)))) (sAsg (mBin (gMul .pure) (mVar 4) (mBin gIx (mVar 9) (mC (.int 1)))) (mgName 4)))
  (sSeq (sFor (miRange1 (mCons (mC (.int 20000)) mNil)) (mgName 3) bSP)
  (sRet (mTup (mCons (mVar 6) (mCons (mVar 4) mNil))))))) := rfl
end K50
end
section
set_option maxRecDepth 100000
namespace K50
open PySem L2 MW
theorem miSeq_ref {f : ME} {env : MW.Env} {S S1 : Sto} {n : Nat} {xs : List D} (h : f env S = some (.ref n, S1)) (hl : S1[n]? = some (.lst xs)) : miSeq f env S = some (⟨xs, some (n, xs)⟩, S1) := by
  unfold miSeq wkL
  rw [h]
  simp only [Option.bind_some]
  rw [list_ref hl]
  rfl
theorem ok_ref {S : Sto} {n : Nat} {xs : List D} (hl : S[n]? = some (.lst xs)) : Wk.ok (⟨xs, some (n, xs)⟩ : Wk) S = true := by
  show (match S[n]? with | some (.lst ys) => D.beqs ys xs | _ => false) = true
  rw [hl]
  exact D.beqs_refl _
section
variable {S : Sto} {n : Nat} {A B : List D} {T : List Tie} {P K : List Int} {w : Int} {v0 v2 v3 v4 v7 v8 v9 v10 v11 v12 v13 v14 v15 v16 v17 : Option W}
theorem sp_break (h5 : S[n]? = some (.lst [])) : bSP [v0, some (.d (.lst (T.map Tie.d))), v2, v3, v4, some (.ref n), some (.ref 1), v7, v8, v9, v10, v11, v12, v13, v14, v15, v16, v17] S =
    some (.bk [v0, some (.d (.lst (T.map Tie.d))), v2, v3, v4, some (.ref n), some (.ref 1), v7, v8, v9, v10, v11, v12, v13, v14, v15, v16, v17] S) := by
  have q := gEq_empR h5 rfl
  simp -implicitDefEqProofs [bSP, q]
theorem sp_leaf (h5 : S[n]? = some (.lst (B ++ [enS (P, K, w)]))) (h1 : S[1]? = some (.lst A)) (hn : n ≠ 1) (hs : D.shp (.lst (B ++ [enS (P, K, w)])) = true) (hl : T.length ≤ 12) (hc : ∀ t ∈ T, t.c.den < 2 ^ 7) (hA : A.length < 16777216) (hw : 0 ≤ w)
    (ho : (List.range T.length).filter (onK T P K) = []) (hb : w * dn (lv T K) < 2 ^ 90) : ∃ v14', bSP [v0, some (.d (.lst (T.map Tie.d))), v2, v3, v4, some (.ref n), some (.ref 1), v7, v8, v9, v10, v11, v12, v13, v14, v15, v16, v17] S =
    some (.nx [v0, some (.d (.lst (T.map Tie.d))), v2, v3, v4, some (.ref n), some (.ref 1), v7, v8, v9, some (.d (.lst [])), some (.d (.tup (P.map D.int))), some (.d (.tup (K.map D.int))), some (.d (.int (w * dn (lv T K)))), v14', v15, v16, v17] ((S.set n (.lst B)).set 1 (.lst (A ++ [enF (P, w * dn (lv T K))])))) := by
  have q : gEq (.ref n) (.d (.lst [])) S = some (.d (.bl false), S) := by
    rw [gEq_empR h5 hs]; simp
  have ty := ty_ref h5
  have pop := pop_ref h5
  have es : enS (P, K, w) = .tup [.tup (P.map D.int), .tup (K.map D.int), .int w] := rfl
  rw [es] at pop
  have out := fun v10 v13 v14 S => lc_out T P K (by omega) v0 v2 v3 v4 (some (.ref n)) (some (.ref 1)) v7 v8 v9 v10 v13 v14 v15 v16 v17 S
  rw [ho] at out
  simp only [List.map_nil] at out
  have hpd : pdk T K (List.range T.length) = dn (lv T K) := pdk_dn T K _
  obtain ⟨v14', lp⟩ := wt_loop (T := T) (K := K) (v0 := v0) (v2 := v2) (v3 := v3) (v4 := v4) (v5 := some (.ref n)) (v6 := some (.ref 1)) (v7 := v7) (v8 := v8) (v9 := v9) (v10 := some (.d (.lst []))) (v11 := some (.d (.tup (P.map D.int)))) (v15 := v15) (v16 := v16) (v17 := v17) hc ⟨upFrom 0 T.length, none⟩ (S.set n (.lst B)) rfl (List.range T.length) w v14 (fun i hi => List.mem_range.mp hi) hw (by rw [hpd]; exact hb)
  rw [hpd] at lp
  have eu : upFrom 0 T.length = (List.range T.length).map fun i : Nat => D.int (i : Int) := by
    unfold upFrom
    refine List.map_congr_left fun i _ => ?_
    rw [Int.zero_add]
  rw [eu] at lp
  have hr : (T.length : Int) < 4611686018427387904 := by omega
  have mi : ∀ v10 v13 v14, miRange1 (mCons (mCall gLen (mCons (mVar 1) mNil)) mNil) [v0, some (.d (.lst (T.map Tie.d))), v2, v3, v4, some (.ref n), some (.ref 1), v7, v8, v9, v10, some (.d (.tup (P.map D.int))), some (.d (.tup (K.map D.int))), v13, v14, v15, v16, v17] (S.set n (.lst B)) = some (⟨(List.range T.length).map fun i : Nat => D.int (i : Int), none⟩, S.set n (.lst B)) := fun v10 v13 v14 => by
    rw [← eu]
    simp -implicitDefEqProofs [miRange1, hr]
  have h1' : (S.set n (.lst B))[1]? = some (.lst A) := by rw [get_set_ne hn]; exact h1
  have ap := append_ref (x := enF (P, w * dn (lv T K))) h1' hA
  have ef : enF (P, w * dn (lv T K)) = .tup [.tup (P.map D.int), .int (w * dn (lv T K))] := rfl
  rw [ef] at ap ⊢
  have ty1 := ty_ref h1'
  refine ⟨v14', ?_⟩
  unfold bSP
  simp -implicitDefEqProofs [q, ty, pop, out, mi, lp, ty1, ap, sz2]
end
end K50
end
section
set_option maxRecDepth 100000
namespace K50
open PySem L2 MW
def heavy : D → Bool
  | .tup [_, _, .int w] => decide (0 < w)
  | _ => false
theorem lc_heavy {X : List SJ} {S : Sto} {n : Nat} (hX : S[n]? = some (.lst (X.map enS))) (hl : X.length ≤ 100000) (v0 v1 v2 v3 v4 v6 v7 v8 v9 v10 v11 v12 v13 v14 v15 v16 v17 : Option W) :
    mLc .own (miSeq (mVar 5)) (.nm 17) (mTest (mBin (gInt iGt) (mBin gIx (mVar 17) (mC (.int 2))) (mC (.int 0)))) (mVar 17) [17] [v0, v1, v2, v3, v4, some (.ref n), v6, v7, v8, v9, v10, v11, v12, v13, v14, v15, v16, v17] S =
      some (.ref S.length, S ++ [.lst ((X.filter fun i => decide (0 < i.2.2)).map enS)]) := by
  have e : ((X.map enS).filter heavy).map (fun x => x) = (X.filter fun i => decide (0 < i.2.2)).map enS := by
    rw [List.map_id', List.filter_map]
    rfl
  have := mLc_pure (mk := .own) (k := ⟨X.map enS, some (n, X.map enS)⟩) (fi := miSeq (mVar 5)) (t := .nm 17) (c := mTest (mBin (gInt iGt) (mBin gIx (mVar 17) (mC (.int 2))) (mC (.int 0)))) (e := mVar 17) (vs := [17])
    (env := [v0, v1, v2, v3, v4, some (.ref n), v6, v7, v8, v9, v10, v11, v12, v13, v14, v15, v16, v17]) (S := S) (S1 := S) rfl (miSeq_ref rfl hX) (ok_ref hX) heavy (fun x => x) (fun x hx => by
      obtain ⟨i, _, rfl⟩ := List.mem_map.mp hx
      refine ⟨[v0, v1, v2, v3, v4, some (.ref n), v6, v7, v8, v9, v10, v11, v12, v13, v14, v15, v16, some (.d (enS i))], rfl, ?_, fun _ => rfl⟩
      have g2 : gIx (.d (enS i)) (.d (.int 2)) S = some (.d (.int i.2.2), S) := rfl
      have hh : heavy (enS i) = decide (0 < i.2.2) := rfl
      rw [hh]
      simp -implicitDefEqProofs [g2]) (by rw [sizeLine_eq]; simp; omega)
  rw [this]
  show some (newL .own (((X.map enS).filter heavy).map fun x => x) S) = _
  rw [e]
  rfl
section
variable {S : Sto} {n : Nat} {A : List D} {Y : List SJ} {T : List Tie} {P K : List Int} {w : Int} {v0 v2 v3 v4 v7 v8 v9 v10 v11 v12 v13 v14 v15 v16 v17 : Option W}
theorem sp_split (h5 : S[n]? = some (.lst (Y.map enS ++ [enS (P, K, w)]))) (hs : D.shp (.lst (Y.map enS ++ [enS (P, K, w)])) = true) (hl : T.length ≤ 12) (hY : Y.length ≤ 90000) (hPl : P.length ≤ 100) (hKl : K.length ≤ 100)
    {k : Nat} {r : List Nat} (ho : (List.range T.length).filter (onK T P K) = k :: r) (hw : w.natAbs < 2 ^ 90) (hc : (tk T k).c.num.natAbs < 2 ^ 7) (hd : (((tk T k).c.den : Int) - (tk T k).c.num).natAbs < 2 ^ 7) :
    ∃ v15' v16', bSP [v0, some (.d (.lst (T.map Tie.d))), v2, v3, v4, some (.ref n), some (.ref 1), v7, v8, v9, v10, v11, v12, v13, v14, v15, v16, v17] S =
    some (.nx [v0, some (.d (.lst (T.map Tie.d))), v2, v3, v4, some (.ref S.length), some (.ref 1), v7, v8, v9, some (.d (.lst (((List.range T.length).filter (onK T P K)).map fun k : Nat => D.int k))), some (.d (.tup (P.map D.int))), some (.d (.tup (K.map D.int))), some (.d (.int w)), v14, v15', v16', v17]
      (S.set n (.lst ((Y ++ [(P ++ [(tk T k).b], K ++ [(k : Int)], w * (tk T k).c.num), (P, K ++ [(k : Int)], w * ((tk T k).c.den - (tk T k).c.num))]).map enS)) ++
        [.lst (((Y ++ [(P ++ [(tk T k).b], K ++ [(k : Int)], w * (tk T k).c.num), (P, K ++ [(k : Int)], w * ((tk T k).c.den - (tk T k).c.num))]).filter fun i => decide (0 < i.2.2)).map enS)])) := by
  have hkm : k ∈ (List.range T.length).filter (onK T P K) := by rw [ho]; exact List.mem_cons_self
  have hk : k < T.length := List.mem_range.mp (List.mem_filter.mp hkm).1
  have q : gEq (.ref n) (.d (.lst [])) S = some (.d (.bl false), S) := by
    rw [gEq_empR h5 hs]; simp
  have ty := ty_ref h5
  have pop := pop_ref h5
  have es : enS (P, K, w) = .tup [.tup (P.map D.int), .tup (K.map D.int), .int w] := rfl
  rw [es] at pop
  have out := fun v10 v13 v14 v15 v16 S => lc_out T P K (by omega) v0 v2 v3 v4 (some (.ref n)) (some (.ref 1)) v7 v8 v9 v10 v13 v14 v15 v16 v17 S
  generalize hO : ((List.range T.length).filter (onK T P K)).map (fun k : Nat => D.int k) = O at out ⊢
  have hO0 : O = D.int k :: r.map fun k : Nat => D.int k := by rw [← hO, ho]; rfl
  have shO : D.shp (.lst O) = true := okD_shp (n := 2) (okD_l (by
    rw [← hO]
    have := List.length_filter_le (onK T P K) (List.range T.length)
    simp at this ⊢
    omega) fun x hx => by
      rw [← hO] at hx
      obtain ⟨j, _, rfl⟩ := List.mem_map.mp hx
      trivial)
  have qO : ∀ S, gEq (.d (.lst O)) (.d (.lst [])) S = some (.d (.bl false), S) := fun S => by
    rw [gEq_emp shO, hO0]; rfl
  have gO : ∀ S, gIx (.d (.lst O)) (.d (.int 0)) S = some (.d (.int k), S) := fun S => by
    rw [hO0]; simp
  have gT := fun S => gIx_ties hk S
  have g1 : ∀ S, gIx (.d (tk T k).d) (.d (.int 1)) S = some (.d (.int (tk T k).b), S) := fun _ => rfl
  have g2 : ∀ S, gIx (.d (tk T k).d) (.d (.int 2)) S = some (.d (fr (tk T k).c), S) := fun _ => rfl
  have ef : ∀ c, fr c = .tup [.int c.num, .int c.den] := fun c => fr_eq c
  have m1 : ∀ S, gMul .pure (.d (.int w)) (.d (.int (tk T k).c.num)) S = some (.d (.int (w * (tk T k).c.num)), S) := fun S => gMul_b hw hc (by decide) (by decide) (by decide)
  have m2 : ∀ S, gMul .pure (.d (.int w)) (.d (.int ((tk T k).c.den - (tk T k).c.num))) S = some (.d (.int (w * ((tk T k).c.den - (tk T k).c.num))), S) := fun S => gMul_b hw hd (by decide) (by decide) (by decide)
  have hz1 : P.length + 1 ≤ sizeLine := by rw [sizeLine_eq]; omega
  have hz2 : K.length + 1 ≤ sizeLine := by rw [sizeLine_eq]; omega
  have hz3 : 1 ≤ sizeLine := by rw [sizeLine_eq]; decide
  -- the two that are put
  have hn : n < S.length := by
    cases e : S[n]? with
    | none => rw [e] at h5; cases h5
    | some x => exact (List.getElem?_eq_some_iff.mp e).1
  have e1 : enS (P ++ [(tk T k).b], K ++ [(k : Int)], w * (tk T k).c.num) = .tup [.tup (P.map D.int ++ [.int (tk T k).b]), .tup (K.map D.int ++ [.int k]), .int (w * (tk T k).c.num)] := by simp [enS]
  have e2 : enS (P, K ++ [(k : Int)], w * ((tk T k).c.den - (tk T k).c.num)) = .tup [.tup (P.map D.int), .tup (K.map D.int ++ [.int k]), .int (w * ((tk T k).c.den - (tk T k).c.num))] := by simp [enS]
  have s1 : (S.set n (.lst (Y.map enS)))[n]? = some (.lst (Y.map enS)) := get_set hn
  have ap1 := append_ref (x := enS (P ++ [(tk T k).b], K ++ [(k : Int)], w * (tk T k).c.num)) s1 (by simp; omega)
  rw [set_set] at ap1
  have s2 : (S.set n (.lst (Y.map enS ++ [enS (P ++ [(tk T k).b], K ++ [(k : Int)], w * (tk T k).c.num)])))[n]? = some (.lst (Y.map enS ++ [enS (P ++ [(tk T k).b], K ++ [(k : Int)], w * (tk T k).c.num)])) := get_set hn
  have ap2 := append_ref (x := enS (P, K ++ [(k : Int)], w * ((tk T k).c.den - (tk T k).c.num))) s2 (by simp; omega)
  rw [set_set] at ap2
  have ty1 := ty_ref s1
  have ty2 := ty_ref s2
  have em : Y.map enS ++ [enS (P ++ [(tk T k).b], K ++ [(k : Int)], w * (tk T k).c.num)] ++ [enS (P, K ++ [(k : Int)], w * ((tk T k).c.den - (tk T k).c.num))] = (Y ++ [(P ++ [(tk T k).b], K ++ [(k : Int)], w * (tk T k).c.num), (P, K ++ [(k : Int)], w * ((tk T k).c.den - (tk T k).c.num))]).map enS := by simp
  rw [em] at ap2
  generalize hX : Y ++ [(P ++ [(tk T k).b], K ++ [(k : Int)], w * (tk T k).c.num), (P, K ++ [(k : Int)], w * ((tk T k).c.den - (tk T k).c.num))] = X at ap2 ⊢
  have s3 : (S.set n (.lst (X.map enS)))[n]? = some (.lst (X.map enS)) := get_set hn
  have hv := fun v10 v11 v12 v13 v14 v15 v16 => lc_heavy s3 (by rw [← hX]; simp; omega) v0 (some (.d (.lst (T.map Tie.d)))) v2 v3 v4 (some (.ref 1)) v7 v8 v9 v10 v11 v12 v13 v14 v15 v16 v17
  rw [List.length_set] at hv
  rw [e1] at ap1 s2 ap2 ty2
  rw [e2] at ap2
  generalize S.set n (.lst (X.map enS)) = S3 at ap2 hv ⊢
  generalize S.set n (.lst (Y.map enS ++ [.tup [.tup (P.map D.int ++ [.int (tk T k).b]), .tup (K.map D.int ++ [.int k]), .int (w * (tk T k).c.num)]])) = S2 at ap1 ap2 ty2
  generalize S.set n (.lst (Y.map enS)) = S1 at pop ap1 ty1
  generalize (tk T k).d = td at gT g1 g2
  refine ⟨some (.d (.int (tk T k).c.num)), some (.d (.int (tk T k).c.den)), ?_⟩
  generalize T.map Tie.d = Td at *
  unfold bSP
  simp -implicitDefEqProofs [-gIx_lst, q, ty, pop, out, qO, gO, gT, g1, g2, ef, m1, m2, hz1, hz2, hz3, sz3, ty1, ap1, ty2, ap2, hv]
end
end K50
end
section
set_option maxRecDepth 100000
namespace K50
open PySem L2 MW
theorem okJ (i : SJ) (h : i.1.length ≤ 1000) (h2 : i.2.1.length ≤ 1000) : okD 4 (enS i) := okD_t (by simp) fun x hx => by
  simp only [List.mem_cons, List.not_mem_nil, or_false] at hx
  rcases hx with rfl | rfl | rfl
  · exact okD_t (by simp; omega) fun y hy => by
      obtain ⟨z, _, rfl⟩ := List.mem_map.mp hy
      trivial
  · exact okD_t (by simp; omega) fun y hy => by
      obtain ⟨z, _, rfl⟩ := List.mem_map.mp hy
      trivial
  · trivial
structure JI (many : Nat) (T : List Tie) (start : Int) (k : Nat) (env : MW.Env) (S : Sto) (F : List FJ) (s : List SJ) : Prop where
  en : ∃ (n : Nat) (v3 v7 v8 v9 v10 v11 v12 v13 v14 v15 v16 v17 : Option W), env = [some (.d (.int many)), some (.d (.lst (T.map Tie.d))), some (.d (.int start)), v3, some (.d (.int (dn T))), some (.ref n), some (.ref 1), v7, v8, v9, v10, v11, v12, v13, v14, v15, v16, v17] ∧ S[n]? = some (.lst (s.map enS)) ∧ n ≠ 1
  s1 : S[1]? = some (.lst (F.map enF))
  kk : k = mjt T s
  sz : F.length + mjt T s ≤ 8191
  so : ∀ i ∈ s, JOk T many i
  fo : ∀ i ∈ F, GOk (dn T) many i
  vl : ∀ G, vaF G F + vaS T G s = dn T * RX T [start] G
theorem jturn {many : Nat} {T : List Tie} {start : Int} {k : Nat} {env : MW.Env} {S : Sto} {F : List FJ} {s : List SJ} (hm : many ≤ 10) (hl : T.length ≤ 12) (ht : ∀ t ∈ T, TOk many t) (x : D) (h : JI many T start k env S F s) :
    ∃ env1 S1, mgName 3 (.d x) env S = some (env1, S1) ∧ ((k = 0 ∧ ∃ e2 S2, bSP env1 S1 = some (.bk e2 S2) ∧ ∃ F s, JI many T start 0 e2 S2 F s) ∨ ∃ e2 S2 j, bSP env1 S1 = some (.nx e2 S2) ∧ j < k ∧ ∃ F s, JI many T start j e2 S2 F s) := by
  obtain ⟨n, v3, v7, v8, v9, v10, v11, v12, v13, v14, v15, v16, v17, rfl, h5, hn1⟩ := h.en
  refine ⟨_, S, rfl, ?_⟩
  show ((k = 0 ∧ ∃ e2 S2, bSP [some (.d (.int many)), some (.d (.lst (T.map Tie.d))), some (.d (.int start)), some (.d x), some (.d (.int (dn T))), some (.ref n), some (.ref 1), v7, v8, v9, v10, v11, v12, v13, v14, v15, v16, v17] S = _ ∧ _) ∨ _)
  have hN : dn T < 2 ^ 90 := Nat.lt_of_le_of_lt (dn_lt T ht) (Nat.pow_lt_pow_right (by decide) (by omega))
  have hP : ∀ i ∈ s, i.1.length ≤ 10 := fun i hi => Nat.le_trans (nd_len (h.so i hi).nd (h.so i hi).rg) hm
  have hsl := mjt_len T s
  have hsz := h.sz
  have shp : D.shp (.lst (s.map enS)) = true := okD_shp (n := 5) (okD_l (by simp; omega) fun x hx => by
    obtain ⟨i, hi, rfl⟩ := List.mem_map.mp hx
    exact okJ i (by have := hP i hi; omega) (by have := (h.so i hi).kl; omega))
  rcases List.eq_nil_or_concat s with rfl | ⟨s', it, rfl⟩
  · left
    exact ⟨h.kk, _, _, sp_break h5, F, [], ⟨n, _, _, _, _, _, _, _, _, _, _, _, _, rfl, h5, hn1⟩, h.s1, rfl, hsz, h.so, h.fo, h.vl⟩
  right
  rw [List.concat_eq_append] at *
  obtain ⟨P, K, w⟩ := it
  rw [List.map_append] at h5 shp
  have ho := h.so (P, K, w) (by simp)
  have hPl := hP (P, K, w) (by simp)
  have hkk := h.kk
  rw [mjt_app] at hsz hkk
  simp only [mjt, Nat.add_zero] at hsz hkk
  have mp := ms_pos (lv T K).length
  have w0 : 0 ≤ w := ho.w0
  have wd : w * dn (lv T K) ≤ dn T := ho.wd
  have kl : K.length + (lv T K).length ≤ 12 := ho.kl
  simp only at hPl
  have hs' : ∀ i ∈ s', JOk T many i := fun i hi => h.so i (List.mem_append_left _ hi)
  have hsl2 := mjt_len T s'
  have e90 : (2 : Int) ^ 90 = ((2 ^ 90 : Nat) : Int) := by decide
  have vl := fun G => h.vl G
  have e0 : ∀ G, vaS T G (s' ++ [(P, K, w)]) = vaS T G s' + w * (dn (lv T K) : Rat) * RX (lv T K) P G := fun G => by rw [vaS_app, vaS_one]
  cases hon : (List.range T.length).filter (onK T P K) with
  | nil =>
    obtain ⟨v14', lf⟩ := sp_leaf (w := w) (v0 := some (.d (.int many))) (v2 := some (.d (.int start))) (v3 := some (.d x)) (v4 := some (.d (.int (dn T)))) (v7 := v7) (v8 := v8) (v9 := v9) (v10 := v10) (v11 := v11) (v12 := v12) (v13 := v13) (v14 := v14) (v15 := v15) (v16 := v16) (v17 := v17)
      h5 h.s1 hn1 shp hl (fun t ht' => (ht t ht').cd) (by simp; omega) w0 hon (by omega)
    have hn : n < S.length := by
      cases e : S[n]? with
      | none => rw [e] at h5; cases h5
      | some x => exact (List.getElem?_eq_some_iff.mp e).1
    have h1l : 1 < S.length := by
      have := h.s1
      cases e : S[1]? with
      | none => rw [e] at this; cases this
      | some x => exact (List.getElem?_eq_some_iff.mp e).1
    refine ⟨_, _, mjt T s', lf, by omega, F ++ [(P, w * dn (lv T K))], s', ⟨n, _, _, _, _, _, _, _, _, _, _, _, _, rfl, ?_, hn1⟩, ?_, rfl, by simp; omega, hs', ?_, fun G => ?_⟩
    · rw [get_set_ne (Ne.symm hn1), get_set hn]
    · rw [get_set (by simpa using h1l), List.map_append]; rfl
    · intro i hi
      rcases List.mem_append.mp hi with z | z
      · exact h.fo i z
      · rw [List.mem_singleton.mp z]
        exact ⟨ho.nd, ho.rg, Int.mul_nonneg w0 (by omega), wd⟩
    · have stop : ∀ t ∈ lv T K, t.a ∈ P → t.b ∈ P := fun t ht' ha => by
        obtain ⟨j, hj, rfl⟩ := List.mem_map.mp ht'
        obtain ⟨j1, j2⟩ := rem_mem.mp hj
        have := List.filter_eq_nil_iff.mp hon j (List.mem_range.mpr j1)
        unfold onK at this
        simpa [j2, ha] using this
      rw [← vl G, e0, vaF_app, vaF_one, RX.stop stop]
      simp only [Rat.intCast_mul]
      have : ((dn (lv T K) : Int) : Rat) = (dn (lv T K) : Rat) := rfl
      rw [this]
      grind
  | cons j r =>
    have hjm : j ∈ (List.range T.length).filter (onK T P K) := by rw [hon]; exact List.mem_cons_self
    obtain ⟨j1, j2⟩ := List.mem_filter.mp hjm
    have j1 := List.mem_range.mp j1
    have jE : (j : Int) ∉ K ∧ (tk T j).a ∈ P ∧ (tk T j).b ∉ P := by
      unfold onK at j2
      simpa using j2
    have tok := ht _ (tk_mem j1)
    have hperm := lv_perm (T := T) (rem_mem.mpr ⟨j1, jE.1⟩)
    have hlen := hperm.length_eq
    simp only [List.length_cons] at hlen
    have hdn := dn_perm hperm
    simp only [dn] at hdn
    obtain ⟨n0, n1⟩ := num_le tok.c0 tok.c1
    have cd := tok.cd
    have e7 : (2 : Nat) ^ 7 = 128 := by decide
    have dp := (tk T j).c.den_pos
    have dnp := dn_pos (lv T K)
    have hwb : w.natAbs < 2 ^ 90 := by
      have : w * 1 ≤ w * dn (lv T K) := Int.mul_le_mul_of_nonneg_left (by omega) w0
      omega
    obtain ⟨v15', v16', sp⟩ := sp_split (w := w) (v0 := some (.d (.int many))) (v2 := some (.d (.int start))) (v3 := some (.d x)) (v4 := some (.d (.int (dn T)))) (v7 := v7) (v8 := v8) (v9 := v9) (v10 := v10) (v11 := v11) (v12 := v12) (v13 := v13) (v14 := v14) (v15 := v15) (v16 := v16) (v17 := v17)
      h5 shp hl (by omega) (by omega) (by omega) hon hwb (by omega) (by omega)
    have hn : n < S.length := by
      cases e : S[n]? with
      | none => rw [e] at h5; cases h5
      | some x => exact (List.getElem?_eq_some_iff.mp e).1
    have h1l : 1 < S.length := by
      have := h.s1
      cases e : S[1]? with
      | none => rw [e] at this; cases this
      | some x => exact (List.getElem?_eq_some_iff.mp e).1
    have hms : ms (lv T K).length = 2 * ms (lv T (K ++ [(j : Int)])).length + 1 := by rw [hlen]; rfl
    have part : ∀ u : Int, 0 ≤ u → u ≤ (tk T j).c.den → 0 ≤ w * u ∧ w * u * dn (lv T (K ++ [(j : Int)])) ≤ dn T := fun u u0 u1 => by
      refine ⟨Int.mul_nonneg w0 u0, ?_⟩
      have h1 : w * u * dn (lv T (K ++ [(j : Int)])) ≤ w * (tk T j).c.den * dn (lv T (K ++ [(j : Int)])) := Int.mul_le_mul_of_nonneg_right (Int.mul_le_mul_of_nonneg_left u1 w0) (by omega)
      have h2 : w * (tk T j).c.den * dn (lv T (K ++ [(j : Int)])) = w * dn (lv T K) := by
        rw [hdn, Int.mul_assoc, Int.natCast_mul]
      omega
    have so2 : ∀ i ∈ s' ++ [(P ++ [(tk T j).b], K ++ [(j : Int)], w * (tk T j).c.num), (P, K ++ [(j : Int)], w * ((tk T j).c.den - (tk T j).c.num))], JOk T many i := by
      intro i hi
      rcases List.mem_append.mp hi with z | z
      · exact hs' i z
      · simp only [List.mem_cons, List.not_mem_nil, or_false] at z
        rcases z with rfl | rfl
        · refine ⟨?_, ?_, (part _ n0 n1).1, (part _ n0 n1).2, by show (K ++ [(j : Int)]).length + _ ≤ 12; simp only [List.length_append, List.length_singleton]; omega⟩
          · refine List.nodup_append.mpr ⟨ho.nd, by simp, ?_⟩
            intro a ha b hb e
            rw [List.mem_singleton.mp hb] at e
            exact jE.2.2 (e ▸ ha)
          · intro y hy
            rcases List.mem_append.mp hy with q | q
            · exact ho.rg y q
            · rw [List.mem_singleton.mp q]; exact ⟨tok.b0, tok.b1⟩
        · exact ⟨ho.nd, ho.rg, (part _ (by omega) (by omega)).1, (part _ (by omega) (by omega)).2, by show (K ++ [(j : Int)]).length + _ ≤ 12; simp only [List.length_append, List.length_singleton]; omega⟩
    have hmx : mjt T (s' ++ [(P ++ [(tk T j).b], K ++ [(j : Int)], w * (tk T j).c.num), (P, K ++ [(j : Int)], w * ((tk T j).c.den - (tk T j).c.num))]) + 1 = mjt T s' + ms (lv T K).length := by
      rw [mjt_app]; simp only [mjt]; omega
    have hmf := mjt_filter T (fun i => decide (0 < i.2.2)) (s' ++ [(P ++ [(tk T j).b], K ++ [(j : Int)], w * (tk T j).c.num), (P, K ++ [(j : Int)], w * ((tk T j).c.den - (tk T j).c.num))])
    refine ⟨_, _, _, sp, ?_, F, (s' ++ [(P ++ [(tk T j).b], K ++ [(j : Int)], w * (tk T j).c.num), (P, K ++ [(j : Int)], w * ((tk T j).c.den - (tk T j).c.num))]).filter fun i => decide (0 < i.2.2), ⟨S.length, _, _, _, _, _, _, _, _, _, _, _, _, rfl, ?_, by omega⟩, ?_, rfl, by omega, fun i hi => so2 i (List.mem_filter.mp hi).1, h.fo, fun G => ?_⟩
    · omega
    · rw [List.getElem?_append_right (by simp)]
      simp
    · rw [List.getElem?_append_left (by simpa using h1l), get_set_ne hn1]
      exact h.s1
    · rw [vaS_filter T G _ fun i hi => (so2 i hi).w0, ← vl G, e0, vaS_app, RX.front hperm jE.2.1 G, hdn]
      have q := RX.perm (List.Perm.refl (lv T (K ++ [(j : Int)]))) (P := P ++ [(tk T j).b]) (P' := (tk T j).b :: P) (fun x => by simp [or_comm]) G
      have hc := Rat.mul_den_eq_num' (tk T j).c
      simp only [vaS, List.map_cons, List.map_nil, sumR]
      rw [q]
      simp only [Rat.intCast_mul, Rat.intCast_sub, Rat.natCast_mul]
      rw [← hc]
      have : (((tk T j).c.den : Int) : Rat) = ((tk T j).c.den : Rat) := rfl
      rw [this]
      grind
end K50
end
section
set_option maxRecDepth 100000
namespace K50
open PySem L2 MW
def bBase : MS := (sAsg (mBin (gMul .pure) (mVar 4) (mBin gIx (mVar 9) (mC (.int 1)))) (mgName 4))
theorem base_loop {v0 v1 v2 v3 v5 v6 v10 v11 v12 v13 v14 v15 v16 v17 : Option W} (k : Wk) (S : Sto) (hk : k.ok S = true) : ∀ (l : List Tie) (w : Nat) (v7 v8 v9 : Option W), (∀ t ∈ l, t.c.den < 2 ^ 7) → 0 < w → w * dn l < 2 ^ 90 →
    ∃ u7 u8 u9, MW.forM k (mgTup 3 (mgCons (mgName 7) (mgCons (mgName 8) (mgCons (mgName 9) mgNil)))) bBase (l.map Tie.d) [v0, v1, v2, v3, some (.d (.int w)), v5, v6, v7, v8, v9, v10, v11, v12, v13, v14, v15, v16, v17] S =
      some (.nx [v0, v1, v2, v3, some (.d (.int ((w * dn l : Nat)))), v5, v6, u7, u8, u9, v10, v11, v12, v13, v14, v15, v16, v17] S)
  | [], w, v7, v8, v9, _, _, _ => ⟨v7, v8, v9, by
    have : w * dn [] = w := by simp [dn]
    rw [this]
    simp [MW.forM, hk]⟩
  | t :: l, w, v7, v8, v9, h, hw, hb => by
    have hd := h t List.mem_cons_self
    have hp := dn_pos l
    have ht := t.c.den_pos
    have ed : w * dn (t :: l) = w * t.c.den * dn l := by simp only [dn]; rw [Nat.mul_assoc]
    rw [ed] at hb
    have hwb : w < 2 ^ 90 := by
      have h1 : w * 1 ≤ w * t.c.den := Nat.mul_le_mul_left w ht
      have h2 : w * t.c.den * 1 ≤ w * t.c.den * dn l := Nat.mul_le_mul_left _ hp
      omega
    obtain ⟨u7, u8, u9, ih⟩ := base_loop (v0 := v0) (v1 := v1) (v2 := v2) (v3 := v3) (v5 := v5) (v6 := v6) (v10 := v10) (v11 := v11) (v12 := v12) (v13 := v13) (v14 := v14) (v15 := v15) (v16 := v16) (v17 := v17) k S hk l (w * t.c.den) (some (.d (.int t.a))) (some (.d (.int t.b))) (some (.d (fr t.c))) (fun x hx => h x (List.mem_cons_of_mem _ hx)) (Nat.mul_pos hw ht) hb
    refine ⟨u7, u8, u9, ?_⟩
    have m := gMul_b (mk := .pure) (S := S) (i := (w : Int)) (j := (t.c.den : Int)) (a := 90) (b := 7) (by rw [Int.natAbs_natCast]; exact hwb) (by rw [Int.natAbs_natCast]; exact hd) (by decide) (by decide) (by decide)
    have g : gIx (.d (fr t.c)) (.d (.int 1)) S = some (.d (.int t.c.den), S) := rfl
    have em : (w : Int) * (t.c.den : Int) = ((w * t.c.den : Nat) : Int) := by rw [Int.natCast_mul]
    rw [em] at m
    have etd : t.d = .tup [.int t.a, .int t.b, fr t.c] := rfl
    rw [List.map_cons, ed, etd]
    unfold MW.forM
    unfold bBase at ih ⊢
    rw [if_pos hk]
    simp -implicitDefEqProofs [-Int.natCast_mul, g, m, ih]
theorem spread_ok {many : Nat} {T : List Tie} {start : Int} (hm : many ≤ 10) (hl : T.length ≤ 12) (ht : ∀ t ∈ T, TOk many t) (h0 : 0 ≤ start) (h1 : start < many) (S : Sto) :
    ∃ F : List FJ, m__law_spread [.d (.int many), .d (.lst (T.map Tie.d)), .d (.int start)] S = some (.d (.tup [.lst (F.map enF), .int (dn T)]), S) ∧ F.length ≤ 8191 ∧ (∀ i ∈ F, GOk (dn T) many i) ∧ ∀ G, vaF G F = dn T * RX T [start] G := by
  have hN : dn T < 2 ^ 90 := Nat.lt_of_le_of_lt (dn_lt T ht) (Nat.pow_lt_pow_right (by decide) (by omega))
  have hms : ∀ n ≤ 12, ms n ≤ 8191 := by decide
  have mono := hms T.length hl
  obtain ⟨u7, u8, u9, bl⟩ := base_loop (v0 := some (.d (.int many))) (v1 := some (.d (.lst (T.map Tie.d)))) (v2 := some (.d (.int start))) (v3 := none) (v5 := some (.ref 0)) (v6 := some (.ref 1)) (v10 := none) (v11 := none) (v12 := none) (v13 := none) (v14 := none) (v15 := none) (v16 := none) (v17 := none)
    ⟨T.map Tie.d, none⟩ [.lst [.tup [.tup [.int start], .tup [], .int 1]], .lst []] rfl T 1 none none none (fun t h => (ht t h).cd) (by decide) (by rw [Nat.one_mul]; exact hN)
  rw [Nat.one_mul] at bl
  have st : JI many T start (mjt T [([start], [], 1)]) [some (.d (.int many)), some (.d (.lst (T.map Tie.d))), some (.d (.int start)), none, some (.d (.int (dn T))), some (.ref 0), some (.ref 1), u7, u8, u9, none, none, none, none, none, none, none, none] [.lst [.tup [.tup [.int start], .tup [], .int 1]], .lst []] [] [([start], [], 1)] := by
    refine ⟨⟨0, _, _, _, _, _, _, _, _, _, _, _, _, rfl, rfl, by decide⟩, rfl, rfl, by simp only [mjt, lv_all, List.length_nil]; omega, ?_, (fun i hi => by cases hi), fun G => ?_⟩
    · intro i hi
      rw [List.mem_singleton.mp hi]
      refine ⟨by simp, fun x hx => by rw [List.mem_singleton.mp hx]; exact ⟨h0, h1⟩, (by decide : (0 : Int) ≤ 1), ?_, ?_⟩
      · show (1 : Int) * dn (lv T []) ≤ dn T
        rw [lv_all]; omega
      · show ([] : List Int).length + (lv T []).length ≤ 12
        rw [lv_all]; simpa using hl
    · rw [vaS_one]
      simp only [vaF, List.map_nil, sumR, lv_all]
      have : ((1 : Int) : Rat) = 1 := rfl
      rw [this]
      grind
  have hmst : mjt T [([start], [], 1)] ≤ 8191 := by simp only [mjt, lv_all]; omega
  obtain ⟨e', S', lp, F, s, hJ⟩ := forM_meas (k := ⟨upFrom 0 20000, none⟩) (g := mgName 3) (b := bSP) (fun _ => rfl) (fun k env S => ∃ F s, JI many T start k env S F s) (fun x n env S ⟨F, s, h⟩ => jturn hm hl ht x h) (upFrom 0 20000) _ _ _ (by rw [upFrom_length]; omega) ⟨[], _, st⟩
  obtain ⟨n, v3, v7, v8, v9, v10, v11, v12, v13, v14, v15, v16, v17, rfl, q5, q6⟩ := hJ.en
  have hs : s = [] := by
    have h1 := hJ.kk
    have h2 := mjt_len T s
    exact List.length_eq_zero_iff.mp (by omega)
  subst hs
  refine ⟨F, ?_, by have := hJ.sz; omega, hJ.fo, fun G => ?_⟩
  · have z1 : 1 ≤ sizeLine := by rw [sizeLine_eq]; decide
    have z3 : 3 ≤ sizeLine := by rw [sizeLine_eq]; decide
    have z0 : 0 ≤ sizeLine := Nat.zero_le _
    have hr : (20000 : Int) < 4611686018427387904 := by decide
    have mi : ∀ v, miSeq (mVar 1) [some (.d (.int many)), some (.d (.lst (T.map Tie.d))), some (.d (.int start)), none, v, some (.ref 0), some (.ref 1), none, none, none, none, none, none, none, none, none, none, none] [.lst [.tup [.tup [.int start], .tup [], .int 1]], .lst []] = some (⟨T.map Tie.d, none⟩, [.lst [.tup [.tup [.int start], .tup [], .int 1]], .lst []]) := fun v => miSeq_lst rfl
    have gv : ∀ b : D, give [.ref 1, .d b] S' = some ([.lst (F.map enF), b], S'.set 1 .dead) := fun b => by
      show (match S'[1]? with | some (Ob.lst xs) => (give [.d b] (S'.set 1 .dead)).bind fun p => some (D.lst xs :: p.1, p.2) | _ => none) = _
      rw [hJ.s1]
      rfl
    have eb : (sAsg (mBin (gMul .pure) (mVar 4) (mBin gIx (mVar 9) (mC (.int 1)))) (mgName 4)) = bBase := rfl
    have e1 : ((1 : Nat) : Int) = 1 := rfl
    rw [e1] at bl
    simp -implicitDefEqProofs [m__law_spread, runPure, bSP_is, startE, z1, z3, z0, mi, eb, bl, miRange1, hr, lp, gv, sz2]
  · have := hJ.vl G
    simp only [vaS, List.map_nil, sumR] at this
    grind
end K50
end
section
set_option maxRecDepth 100000
namespace K50
open PySem L2 MW
theorem part_sum (q : FJ → Bool) (G : (Int → Prop) → Prop) : ∀ {F : List FJ}, (∀ i ∈ F, (q i = true ↔ G fun x => x ∈ i.1)) → (((((F.filter q).map (·.2)).sum : Int)) : Rat) = vaF G F
  | [], _ => rfl
  | i :: F, h => by
    have ih := part_sum q G fun x hx => h x (List.mem_cons_of_mem _ hx)
    have h0 := h i List.mem_cons_self
    have e : vaF G (i :: F) = i.2 * ind (G fun x => x ∈ i.1) + vaF G F := rfl
    by_cases hq : q i = true
    · rw [List.filter_cons_of_pos hq, e, ind_t (h0.mp hq)]
      simp only [List.map_cons, List.sum_cons, Rat.intCast_add]
      grind
    · rw [List.filter_cons_of_neg hq, e, ind_f (fun z => hq (h0.mpr z))]
      grind
/-- the part of what is found that is asked for, over the base -/
theorem low_part {many : Nat} {T : List Tie} {start : Int} {F : List FJ} (hl : T.length ≤ 12) (ht : ∀ t ∈ T, TOk many t) (vl : ∀ G, vaF G F = dn T * RX T [start] G) (q : FJ → Bool) (G : (Int → Prop) → Prop) (hq : ∀ i ∈ F, (q i = true ↔ G fun x => x ∈ i.1)) (S : Sto) :
    m__law_low [.d (.int ((F.filter q).map (·.2)).sum), .d (.int (dn T))] S = some (.d (fr (RX T [start] G)), S) := by
  have hN : dn T < 2 ^ 90 := Nat.lt_of_le_of_lt (dn_lt T ht) (Nat.pow_lt_pow_right (by decide) (by omega))
  have hp := dn_pos T
  rw [law_low_ok (by omega) (n := 90) (by rw [Int.natAbs_natCast]; exact hN) (by decide)]
  have e := part_sum q G hq
  rw [vl] at e
  rw [Part.eq (r := RX T [start] G) (d := dn T) (by omega) (n := ((F.filter q).map (·.2)).sum) (by rw [e, Rat.mul_comm])]
def ofG : D → FJ
  | .tup [.tup ps, .int w] => (ps.map fun | .int i => i | _ => 0, w)
  | _ => ([], 0)
theorem ofG_enc (i : FJ) : ofG (enF i) = i := by
  show ((i.1.map D.int).map _, i.2) = i
  rw [List.map_map]
  have : (i.1.map ((fun | .int i => i | _ => 0) ∘ D.int)) = i.1 := List.map_id'' (fun _ => rfl) _
  rw [this]
theorem lc_pick (q : FJ → Bool) (F : List FJ) : ((F.map enF).filter fun x => q (ofG x)).map (fun x => D.int (ofG x).2) = ((F.filter q).map (·.2)).map D.int := by
  have e : (fun x => q (ofG x)) ∘ enF = q := funext fun i => by
    show q (ofG (enF i)) = q i
    rw [ofG_enc]
  rw [List.filter_map, e, List.map_map, List.map_map]
  refine List.map_congr_left fun i _ => ?_
  show D.int (ofG (enF i)).2 = D.int i.2
  rw [ofG_enc]
def lcW (t : MB) : ME := mLc .pure (miSeq (mVar 4)) (.tp [7, 8]) t (mVar 8) [7, 8]
theorem lcW_ok (t : MB) (q : FJ → Bool) (F : List FJ) (hF : F.length ≤ 100000) (v0 v1 v2 v3 v5 v6 : Option W) (S : Sto)
    (h : ∀ i ∈ F, t [v0, v1, v2, v3, some (.d (.lst (F.map enF))), v5, v6, some (.d (.tup (i.1.map D.int))), some (.d (.int i.2))] S = some (q i, S)) :
    lcW t [v0, v1, v2, v3, some (.d (.lst (F.map enF))), v5, v6, none, none] S = some (.d (.lst (((F.filter q).map (·.2)).map D.int)), S) := by
  rw [← lc_pick]
  refine mLc_d rfl (miSeq_lst rfl) _ _ ?_ (by simpa using hF)
  intro x hx
  obtain ⟨i, hi, rfl⟩ := List.mem_map.mp hx
  refine ⟨[v0, v1, v2, v3, some (.d (.lst (F.map enF))), v5, v6, some (.d (.tup (i.1.map D.int))), some (.d (.int i.2))], rfl, ?_, fun _ => ?_⟩
  · rw [ofG_enc]; exact h i hi
  · rw [ofG_enc]; rfl
def lcR : ME := mLc .pure (miRange1 (mCons (mVar 0) mNil)) (.nm 6) tYesM (mCall m__law_low (mCons (mCall (gIs fun is => some (.int is.sum)) (mCons (lcW (mTest (mBin (gIn false) (mVar 6) (mVar 7)))) mNil)) (mCons (mVar 5) mNil))) [6]
theorem law_reach_ok {many : Nat} {T : List Tie} {start : Int} (hm : many ≤ 10) (hl : T.length ≤ 12) (ht : ∀ t ∈ T, TOk many t) (h0 : 0 ≤ start) (h1 : start < many) (S : Sto) :
    m__law_reach [.d (.int many), .d (.lst (T.map Tie.d)), .d (.int start)] S = some (.d (.tup [.tup (rowD many T start), fr (RX T [start] (AllR many))]), S) := by
  obtain ⟨F, k1, k2, k3, k4⟩ := spread_ok hm hl ht h0 h1 ([] : Sto)
  have a1 : ∀ place : Int, m__law_low [.d (.int ((F.filter fun i => decide (place ∈ i.1)).map (·.2)).sum), .d (.int (dn T))] ([] : Sto) = some (.d (fr (RX T [start] fun R => R place)), []) := fun place =>
    low_part hl ht k4 (fun i => decide (place ∈ i.1)) (fun R => R place) (fun i _ => by simp) []
  have a2 := low_part hl ht k4 (fun i => decide ((i.1.length : Int) = many)) (AllR many) (fun i hi => by
    have := all_iff (k3 i hi).nd (k3 i hi).rg
    rw [decide_eq_true_eq, show ((i.1.length : Int) = many) ↔ i.1.length = many by omega]
    exact this) ([] : Sto)
  have gt : ∀ xs S, gTupOf [.d (.lst xs)] S = some (.d (.tup xs), S) := fun _ _ => (rfl : _ = _).trans rfl
  have hr : (many : Int) < 4611686018427387904 := by omega
  have l1 : ∀ v3, lcR [some (.d (.int many)), some (.d (.lst (T.map Tie.d))), some (.d (.int start)), v3, some (.d (.lst (F.map enF))), some (.d (.int (dn T))), none, none, none] [] = some (.d (.lst (rowD many T start)), []) := fun v3 => by
    have e : rowD many T start = ((upFrom 0 many).filter fun _ => true).map fun x => match x with | .int i => fr (RX T [start] fun R => R i) | _ => .non := by
      rw [List.filter_eq_self.mpr fun _ _ => rfl]
      unfold rowD upFrom
      rw [List.map_map]
      refine List.map_congr_left fun i _ => ?_
      show _ = fr (RX T [start] fun R => R (0 + (i : Int)))
      rw [Int.zero_add]
    rw [e]
    refine mLc_d rfl ?_ _ _ ?_ (by simp [upFrom]; omega)
    · simp -implicitDefEqProofs [miRange1, hr]
    · intro x hx
      obtain ⟨i, _, rfl⟩ := upFrom_mem hx
      refine ⟨[some (.d (.int many)), some (.d (.lst (T.map Tie.d))), some (.d (.int start)), v3, some (.d (.lst (F.map enF))), some (.d (.int (dn T))), some (.d (.int (0 + i))), none, none], rfl, rfl, fun _ => ?_⟩
      have lw := lcW_ok (mTest (mBin (gIn false) (mVar 6) (mVar 7))) (fun j => decide ((0 + (i : Int)) ∈ j.1)) F (by omega) (some (.d (.int many))) (some (.d (.lst (T.map Tie.d)))) (some (.d (.int start))) v3 (some (.d (.int (dn T)))) (some (.d (.int (0 + i)))) [] (fun j _ => by simp -implicitDefEqProofs [gIn_tup])
      have aa := a1 (0 + i)
      have gs := gSum_lst ((F.filter fun j => decide ((0 + (i : Int)) ∈ j.1)).map (·.2)) []
      rw [mCall_run, mCons_run, mCall_run, mCons_run, lw]
      simp only [Option.bind_some, mNil_run]
      rw [gs]
      simp only [Option.bind_some]
      show m__law_low [.d (.int ((F.filter fun j => decide ((0 + (i : Int)) ∈ j.1)).map (·.2)).sum), .d (.int (dn T))] [] = _
      exact aa
  have l2 : ∀ v3, lcW (mTest (mBin (gEq) (mCall gLen (mCons (mVar 7) mNil)) (mVar 0))) [some (.d (.int many)), some (.d (.lst (T.map Tie.d))), some (.d (.int start)), v3, some (.d (.lst (F.map enF))), some (.d (.int (dn T))), none, none, none] [] = some (.d (.lst (((F.filter fun i => decide ((i.1.length : Int) = many)).map (·.2)).map D.int)), []) := fun v3 =>
    lcW_ok _ (fun i => decide ((i.1.length : Int) = many)) F (by omega) _ _ _ v3 _ _ [] fun j _ => by simp -implicitDefEqProofs
  have gs2 := gSum_lst ((F.filter fun i => decide ((i.1.length : Int) = many)).map (·.2)) []
  have eb : b__law_reach = (sSeq (sAsg (mCall m__law_spread (mCons (mVar 0) (mCons (mVar 1) (mCons (mVar 2) mNil)))) (mgTup 2 (mgCons (mgName 4) (mgCons (mgName 5) mgNil))))
  (sSeq (sAsg (mCall gTupOf (mCons lcR mNil)) (mgName 3))
  (sRet (mTup (mCons (mVar 3) (mCons (mCall m__law_low (mCons (mCall (gIs fun is => some (.int is.sum)) (mCons (lcW (mTest (mBin (gEq) (mCall gLen (mCons (mVar 7) mNil)) (mVar 0)))) mNil)) (mCons (mVar 5) mNil))) mNil)))))) := rfl
  have z2 := sz2
  generalize hs2 : ((F.filter fun i => decide ((i.1.length : Int) = many)).map (·.2)).map D.int = L2 at l2 gs2
  generalize ((F.filter fun i => decide ((i.1.length : Int) = many)).map (·.2)).sum = s2 at gs2 a2
  simp -implicitDefEqProofs [m__law_reach, runPure, eb, startE, k1, l1, gt, l2, gs2, a2, z2]
end K50
end
section
set_option maxRecDepth 100000
namespace K50
open PySem L2 MW
/-- a net as the program wants it -/
structure Net (many : Nat) (T : List Tie) : Prop where
  m0 : 1 ≤ many
  m1 : many ≤ 10
  ln : T.length ≤ 12
  ok : ∀ t ∈ T, TOk many t
  so : (T.map Tie.d).Pairwise fun x y => D.lt y x = false
theorem kg10 {α : Type} (x y : α) : kg 0 2 [1, 0] [] [x, y] = [y, x] := rfl
theorem kg210 {α : Type} (x y z : α) : kg 0 3 [2, 1, 0] [] [x, y, z] = [z, y, x] := rfl
section
variable {many : Nat} {T : List Tie} {one other : Int}
noncomputable def toldD (many : Nat) (T : List Tie) (one : Int) : D := .tup [.tup (rowD many T one), fr (RX T [one] (AllR many))]
theorem rowD_perm {T T' : List Tie} (h : T.Perm T') (many : Nat) (one : Int) : rowD many T one = rowD many T' one := by
  unfold rowD
  refine List.map_congr_left fun i _ => ?_
  rw [RX.perm h (fun _ => Iff.rfl)]
theorem toldD_perm {T T' : List Tie} (h : T.Perm T') (many : Nat) (one : Int) : toldD many T one = toldD many T' one := by
  unfold toldD
  rw [rowD_perm h, RX.perm h (fun _ => Iff.rfl)]
theorem told_ok (h : Net many T) (h0 : 0 ≤ one) (h1 : one < many) (b : Bool) (S : Sto) : m__law_told [.d (netD many T), .d (.int one), .d (.bl b)] S = some (.d (toldD many T one), S) := by
  have r1 := reached_chances_ok h.m0 h.m1 h.ln h.ok h.so h0 h1 ([] : Sto)
  have r2 := reach_all_ok h.m0 h.m1 h.ln h.ok h.so h0 h1 ([] : Sto)
  unfold toldD
  cases b <;> simp -implicitDefEqProofs [m__law_told, runPure, b__law_told, startE, r1, r2, kg10, sz2]
theorem pair_ok (h : Net many T) (h0 : 0 ≤ one) (h1 : one < many) (k0 : 0 ≤ other) (k1 : other < many) (b : Bool) (S : Sto) : m__law_pair [.d (netD many T), .d (.int one), .d (.int other), .d (.bl b)] S = some (.d (fr (RX T [one] fun R => R other)), S) := by
  have r := reach_chance_ok h.m0 h.m1 h.ln h.ok h.so h0 h1 k0 k1 ([] : Sto)
  cases b <;> simp -implicitDefEqProofs [m__law_pair, runPure, b__law_pair, startE, r, kg210]
theorem okD_told (many : Nat) (hm : many ≤ 10) (T : List Tie) (one : Int) : okD 5 (toldD many T one) := okD_t (by simp) fun x hx => by
  simp only [List.mem_cons, List.not_mem_nil, or_false] at hx
  rcases hx with rfl | rfl
  · exact okD_t (by simp [rowD]; omega) fun y hy => by
      obtain ⟨i, _, rfl⟩ := List.mem_map.mp hy
      exact okD_fr' _ _
  · exact okD_fr' _ _
theorem same_told (hm : many ≤ 10) (S : Sto) : m__law_same 5 [.d (toldD many T one), .d (toldD many T one)] S = some (.d (.bl true), S) := law_same_refl 5 _ S (okD_told many hm T one)
end
theorem same_frs (rs : List Rat) (h : rs.length ≤ 1000) (S : Sto) : m__law_same 5 [.d (.lst (rs.map fr)), .d (.lst (rs.map fr))] S = some (.d (.bl true), S) :=
  law_same_refl 5 _ S (okD_l (by simp; omega) fun x hx => by
    obtain ⟨r, _, rfl⟩ := List.mem_map.mp hx
    exact okD_fr' _ _)
theorem same_fr (r : Rat) (S : Sto) : m__law_same 5 [.d (fr r), .d (fr r)] S = some (.d (.bl true), S) := law_same_refl 5 _ S (okD_fr' _ _)
theorem law_not_ok (c : Rat) (S : Sto) : m__law_not [.d (fr c)] S = some (.d (fr (1 - c)), S) := by
  rw [fr_rest, fr_eq]
  simp -implicitDefEqProofs [m__law_not, runPure, b__law_not, startE, sz2]
theorem law_mul_ok {r s : Rat} {n m : Nat} (hr : Sz r n) (hs : Sz s m) (h : n + m ≤ 9000) (h1 : 0 < n) (h2 : 0 < m) (S : Sto) : m__law_mul [.d (fr r), .d (fr s)] S = some (.d (fr (r * s)), S) := by
  have q1 := gMul_b (mk := .pure) (S := ([] : Sto)) hr.num hs.num h1 h2 (by omega)
  have q3 := gMul_b (mk := .pure) (S := ([] : Sto)) (nat_b hr.den) (nat_b hs.den) h1 h2 (by omega)
  have hd : 0 < (r.den : Int) * s.den := by exact_mod_cast Nat.mul_pos r.den_pos s.den_pos
  have hz : ((r.den : Int) * s.den).natAbs < 2 ^ (n + m) := by rw [Int.natAbs_mul]; exact pow_lt_mul (nat_b hr.den) (nat_b hs.den)
  have q4 := law_low_ok (a := r.num * s.num) hd hz h ([] : Sto)
  rw [← mul_divInt] at q4
  simp -implicitDefEqProofs [m__law_mul, runPure, b__law_mul, startE, fr_eq, q1, q3] at q4 ⊢
  simp [q4]
/-- some of the numbers below many, in any order -/
theorem some_ok {S : Sto} {n c : Nat} (hB : Bx S n c) {many : Nat} (hm : many ≤ 1000) (hc : c + many < 1000000) : ∃ (ys : List Int) (o : Ob), m__law_mixed [.ref n, .d (.lst (upFrom 0 many))] S = some (.d (.lst (ys.map D.int)), S.set n o) ∧ ys.Perm ((List.range many).map fun i : Nat => (i : Int)) ∧ Bx (S.set n o) n (c + many) := by
  obtain ⟨ys, o, h1, h2, h3⟩ := mixed_ok (w := .d (.lst (upFrom 0 many))) hB (by rw [upFrom_length]; omega) rfl (by simp)
  rw [upFrom_length] at h3
  have eu : upFrom 0 many = ((List.range many).map fun i : Nat => (i : Int)).map D.int := by
    unfold upFrom
    rw [List.map_map]
    refine List.map_congr_left fun i _ => ?_
    show D.int (0 + (i : Int)) = D.int i
    rw [Int.zero_add]
  have key : ys = (ys.map fun | .int i => i | _ => 0).map D.int := by
    rw [List.map_map]
    conv => lhs; rw [← List.map_id ys]
    refine List.map_congr_left fun x hx => ?_
    have := h2.mem_iff.mp hx
    rw [eu] at this
    obtain ⟨i, _, rfl⟩ := List.mem_map.mp this
    rfl
  refine ⟨ys.map fun | .int i => i | _ => 0, o, by rw [← key]; exact h1, ?_, h3⟩
  have := h2.map fun | .int i => i | _ => 0
  rw [eu, List.map_map] at this
  have e2 : (((List.range many).map fun i : Nat => (i : Int)).map ((fun | .int i => i | _ => 0) ∘ D.int)) = (List.range many).map fun i : Nat => (i : Int) := List.map_id'' (fun _ => rfl) _
  rw [e2] at this
  exact this
theorem below_of {ys : List Int} {many : Nat} (h : ys.Perm ((List.range many).map fun i : Nat => (i : Int))) {x : Int} (hx : x ∈ ys) : 0 ≤ x ∧ x < many := by
  obtain ⟨i, hi, rfl⟩ := List.mem_map.mp (h.mem_iff.mp hx)
  have := List.mem_range.mp hi
  omega
theorem rgOk0 {many : Nat} (hm : many ≤ 1000) : rgOk 0 (many : Int) = true := by
  have h1 : (many : Int) < 2 ^ 62 := by omega
  have h2 : -(2 ^ 62) ≤ (many : Int) := by omega
  have h3 : ((many : Int) - 0).toNat ≤ 2 ^ 24 := by omega
  have h4 : -(2 ^ 62) ≤ (0 : Int) := by omega
  have h5 : (0 : Int) < 2 ^ 62 := by omega
  unfold rgOk
  rw [decide_eq_true h1, decide_eq_true h2, decide_eq_true h3, decide_eq_true h4, decide_eq_true h5]
  rfl
theorem lstRg {f : ME} {env : MW.Env} {S : Sto} {many : Nat} (hm : many ≤ 1000) (h : f env S = some (.d (.int many), S)) : mLstRg1 .pure f env S = some (.d (.lst (upFrom 0 many)), S) := by
  have e := rgOk0 hm
  have e2 : ((many : Int) - 0).toNat = many := by omega
  unfold mLstRg1
  rw [h, Option.bind_some]
  simp -implicitDefEqProofs only [e2, newL_pure]
  rw [if_pos e]
end K50
end
section
set_option maxRecDepth 100000
namespace K50
open PySem L2 MW
theorem _root_.MW.Bx.self {S : Sto} {n c : Nat} (h : Bx S n c) : ∃ o, S.set n o = S := by
  obtain ⟨b0, fl, sd, c', q1, q2⟩ := id h
  have hl := h.lt
  rw [List.getElem?_eq_getElem hl] at q1
  exact ⟨S[n], List.set_getElem_self _⟩
theorem cut2 (xs : List D) : cutD xs none (some 2) = xs.take 2 := cut_to xs 2
theorem cut1 (xs : List D) : cutD xs none (some 1) = xs.take 1 := cut_to xs 1
def bOth : MS := (sSeq (sIf (mNot (mTest (mCall (m__law_same 5) (mCons (mList .pure (mCons (mCall m__law_pair (mCons (mVar 8) (mCons (mVar 4) (mCons (mVar 11) (mCons (mNotV (mVar 3)) mNil))))) (mCons (mCall m__law_pair (mCons (mVar 9) (mCons (mVar 11) (mCons (mVar 4) (mCons (mVar 3) mNil))))) mNil))) (mCons (mList .pure (mCons (mBin gIx (mBin gIx (mVar 10) (mC (.int 0))) (mVar 11)) (mCons (mBin gIx (mBin gIx (mVar 10) (mC (.int 0))) (mVar 11)) mNil))) mNil))))) (sRet (mC (.bl false))) sNil)
  (sAsg (mNotV (mVar 3)) (mgName 3)))
def bOne : MS := (sSeq (sAsg (mCall m__law_reach (mCons (mVar 1) (mCons (mVar 2) (mCons (mVar 4) mNil)))) (mgName 10))
  (sSeq (sIf (mNot (mTest (mCall (m__law_same 5) (mCons (mCall m__law_told (mCons (mVar 8) (mCons (mVar 4) (mCons (mVar 3) mNil)))) (mCons (mVar 10) mNil))))) (sRet (mC (.bl false))) sNil)
  (sFor (miSeq (mBin (gAdd .pure) (mSl .pure (mCall m__law_mixed (mCons (mVar 0) (mCons (mLstRg1 .pure (mVar 1)) mNil))) mNo (mSo (mC (.int 2)))) (mList .pure (mCons (mVar 4) mNil)))) (mgName 11) bOth)))
section
variable {many n : Nat} {T Ts Tb : List Tie} {one : Int}
theorem gRow {many : Nat} {T : List Tie} {one x : Int} (x0 : 0 ≤ x) (x1 : x < many) (S : Sto) : gIx (.d (.tup (rowD many T one))) (.d (.int x)) S = some (.d (fr (RX T [one] fun R => R x)), S) := by
  obtain ⟨i, rfl⟩ : ∃ i : Nat, x = i := ⟨x.toNat, by omega⟩
  have hi : i < many := by omega
  have e : (rowD many T one)[i]? = some (fr (RX T [one] fun R => R (i : Int))) := by
    unfold rowD
    rw [List.getElem?_map, List.getElem?_range hi]
    rfl
  rw [gIx_tup, MW.atI_nat, e]
  rfl
theorem both_loop (hs : Ts.Perm T) (hb : Tb.Perm (T.map Tie.rev)) (N1 : Net many Ts) (N2 : Net many Tb) (o0 : 0 ≤ one) (o1 : one < many) (v0 v1 v2 v5 v6 v7 v12 v13 v14 v15 : Option W) (S : Sto) (k : Wk) (hk : k.ok S = true) : ∀ (l : List Int) (b : Bool) (v11 : Option W), (∀ x ∈ l, 0 ≤ x ∧ x < many) →
    ∃ b' v11', MW.forM k (mgName 11) bOth (l.map D.int) [v0, v1, v2, some (.d (.bl b)), some (.d (.int one)), v5, v6, v7, some (.d (netD many Ts)), some (.d (netD many Tb)), some (.d (toldD many T one)), v11, v12, v13, v14, v15] S =
      some (.nx [v0, v1, v2, some (.d (.bl b')), some (.d (.int one)), v5, v6, v7, some (.d (netD many Ts)), some (.d (netD many Tb)), some (.d (toldD many T one)), v11', v12, v13, v14, v15] S)
  | [], b, v11, _ => ⟨b, v11, by simp [MW.forM, hk]⟩
  | x :: l, b, v11, h => by
    obtain ⟨x0, x1⟩ := h x List.mem_cons_self
    obtain ⟨b', v', ih⟩ := both_loop hs hb N1 N2 o0 o1 v0 v1 v2 v5 v6 v7 v12 v13 v14 v15 S k hk l (!b) (some (.d (.int x))) fun y hy => h y (List.mem_cons_of_mem _ hy)
    refine ⟨b', v', ?_⟩
    have p1 := pair_ok N1 o0 o1 x0 x1 (!b) S
    have p2 := pair_ok N2 x0 x1 o0 o1 b S
    rw [RX.perm hs (fun _ => Iff.rfl)] at p1
    rw [RX.perm hb (fun _ => Iff.rfl), RX.rev] at p2
    have g := gRow (T := T) (one := one) x0 x1 S
    have et : toldD many T one = .tup [.tup (rowD many T one), fr (RX T [one] (AllR many))] := rfl
    have g0 : gIx (.d (toldD many T one)) (.d (.int 0)) S = some (.d (.tup (rowD many T one)), S) := rfl
    have sm := same_frs [RX T [one] fun R => R x, RX T [one] fun R => R x] (by simp) S
    simp only [List.map_cons, List.map_nil] at sm
    generalize toldD many T one = td at *
    generalize rowD many T one = rd at *
    generalize netD many Ts = n1 at *
    generalize netD many Tb = n2 at *
    rw [List.map_cons]
    unfold MW.forM
    unfold bOth at ih ⊢
    rw [if_pos hk]
    simp -implicitDefEqProofs [-gIx_tup, p1, p2, g, g0, sm, sz2, ih]
theorem one_turn {S : Sto} {c : Nat} (hB : Bx S n c) (hc : c + 100 < 1000000) (hs : Ts.Perm T) (hb : Tb.Perm (T.map Tie.rev)) (hl : T.length ≤ 12) (ht : ∀ t ∈ T, TOk many t) (N1 : Net many Ts) (N2 : Net many Tb) (o0 : 0 ≤ one) (o1 : one < many) (b : Bool) (v5 v6 v7 v10 v11 v12 v13 v14 v15 : Option W) :
    ∃ b' v11' o, bOne [some (.ref n), some (.d (.int many)), some (.d (.lst (T.map Tie.d))), some (.d (.bl b)), some (.d (.int one)), v5, v6, v7, some (.d (netD many Ts)), some (.d (netD many Tb)), v10, v11, v12, v13, v14, v15] S =
      some (.nx [some (.ref n), some (.d (.int many)), some (.d (.lst (T.map Tie.d))), some (.d (.bl b')), some (.d (.int one)), v5, v6, v7, some (.d (netD many Ts)), some (.d (netD many Tb)), some (.d (toldD many T one)), v11', v12, v13, v14, v15] (S.set n o)) ∧ Bx (S.set n o) n (c + many) := by
  have hm := N1.m1
  have lr := law_reach_ok hm hl ht o0 o1 S
  have et : (.tup [.tup (rowD many T one), fr (RX T [one] (AllR many))] : D) = toldD many T one := rfl
  rw [et] at lr
  have tl := told_ok N1 o0 o1 b S
  rw [toldD_perm hs] at tl
  have sm := same_told (T := T) (one := one) hm S
  obtain ⟨ys, o, k1, k2, k3⟩ := some_ok hB (by omega) (many := many) (by omega)
  have hin : ∀ x ∈ ys.take 2 ++ [one], 0 ≤ x ∧ x < many := fun x hx => by
    rcases List.mem_append.mp hx with z | z
    · exact below_of k2 (List.mem_of_mem_take z)
    · rw [List.mem_singleton.mp z]; exact ⟨o0, o1⟩
  have hz : (ys.take 2).length + 1 ≤ sizeLine := by rw [sizeLine_eq]; simp; omega
  obtain ⟨b', v', lp⟩ := both_loop hs hb N1 N2 o0 o1 (some (.ref n)) (some (.d (.int many))) (some (.d (.lst (T.map Tie.d)))) v5 v6 v7 v12 v13 v14 v15 (S.set n o) ⟨(ys.take 2 ++ [one]).map D.int, none⟩ rfl (ys.take 2 ++ [one]) b v11 hin
  refine ⟨b', v', o, ?_, k3⟩
  have mi : ∀ v10, miSeq (mBin (gAdd .pure) (mSl .pure (mCall m__law_mixed (mCons (mVar 0) (mCons (mLstRg1 .pure (mVar 1)) mNil))) mNo (mSo (mC (.int 2)))) (mList .pure (mCons (mVar 4) mNil))) [some (.ref n), some (.d (.int many)), some (.d (.lst (T.map Tie.d))), some (.d (.bl b)), some (.d (.int one)), v5, v6, v7, some (.d (netD many Ts)), some (.d (netD many Tb)), v10, v11, v12, v13, v14, v15] S =
      some (⟨(ys.take 2 ++ [one]).map D.int, none⟩, S.set n o) := fun v10 => by
    refine miSeq_lst ?_
    have lr1 := lstRg (f := mVar 1) (env := [some (.ref n), some (.d (.int many)), some (.d (.lst (T.map Tie.d))), some (.d (.bl b)), some (.d (.int one)), v5, v6, v7, some (.d (netD many Ts)), some (.d (netD many Tb)), v10, v11, v12, v13, v14, v15]) (S := S) (many := many) (by omega) rfl
    have z1 : 1 ≤ sizeLine := by rw [sizeLine_eq]; decide
    have hz' : min 2 ys.length + 1 ≤ sizeLine := by rw [sizeLine_eq]; omega
    simp -implicitDefEqProofs [lr1, k1, gSl_lst, cut2, z1, hz']
  generalize toldD many T one = td at *
  generalize netD many Ts = n1 at *
  generalize netD many Tb = n2 at *
  generalize hq : List.map D.int (ys.take 2 ++ [one]) = q at mi lp
  generalize T.map Tie.d = Td at *
  unfold bOne
  simp -implicitDefEqProofs [lr, tl, sm, mi, lp]
end
end K50
end
section
set_option maxRecDepth 100000
namespace K50
open PySem L2 MW
theorem gEq_two (a b c d : Int) (S : Sto) : gEq (.d (.tup [.int a, .int b])) (.d (.tup [.int c, .int d])) S = some (.d (.bl (decide (a = c) && decide (b = d))), S) := by
  rw [gEq_d rfl rfl]
  have : D.eqv (.tup [.int a, .int b]) (.tup [.int c, .int d]) = ((a == c) && ((b == d) && true)) := rfl
  rw [this, Bool.and_true]
  rfl
theorem extend_ref {S : Sto} {n : Nat} {xs ys : List D} (h : S[n]? = some (.lst xs)) (hz : xs.length + ys.length ≤ 100000) : gExtend (.ref n) [.d (.lst ys)] S = some (.d .non, S.set n (.lst (xs ++ ys))) := by
  have hz' : xs.length + ys.length ≤ sizeLine := by rw [sizeLine_eq]; omega
  have e : W.listT S (.d (.lst ys)) = some ys := rfl
  unfold gExtend
  simp [h, hz', e]
theorem take_two (t : Tie) : (.tup [.int t.a, .int t.b] : D) = .tup ([.int t.a, .int t.b, fr t.c].take 2) := rfl
theorem sl_tie (t : Tie) (S : Sto) : gSl .pure (.d t.d) none (some 2) S = some (.d (.tup [.int t.a, .int t.b]), S) := by
  have e : t.d = .tup [.int t.a, .int t.b, fr t.c] := rfl
  rw [e, gSl_tup, cut2]
  rfl
/-- two ties the same way -/
structure Tw (T : List Tie) (x : D) : Prop where
  ex : ∃ j k : Nat, x = .tup [.int j, .int k] ∧ j < k ∧ k < T.length ∧ (tk T j).a = (tk T k).a ∧ (tk T j).b = (tk T k).b
def lcTw : ME := mLc .pure (miRange2 (mCons (mBin (gAdd .pure) (mVar 6) (mC (.int 1))) (mCons (mCall gLen (mCons (mVar 2) mNil)) mNil))) (.nm 12) (mTest (mBin (gEq) (mSl .pure (mBin gIx (mVar 2) (mVar 12)) mNo (mSo (mC (.int 2)))) (mSl .pure (mBin gIx (mVar 2) (mVar 6)) mNo (mSo (mC (.int 2)))))) (mTup (mCons (mVar 6) (mCons (mVar 12) mNil))) [12]
theorem lcTw_ok {T : List Tie} {j : Nat} (hj : j < T.length) (hl : T.length ≤ 12) (v0 v1 v3 v4 v5 v7 v8 v9 v10 v11 v13 v14 v15 : Option W) (S : Sto) :
    ∃ xs : List D, lcTw [v0, v1, some (.d (.lst (T.map Tie.d))), v3, v4, v5, some (.d (.int j)), v7, v8, v9, v10, v11, none, v13, v14, v15] S = some (.d (.lst xs), S) ∧ xs.length ≤ 12 ∧ ∀ x ∈ xs, Tw T x := by
  have hr : (T.length : Int) < 4611686018427387904 := by omega
  have hr2 : (j : Int) + 1 < 4611686018427387904 := by omega
  have e : ((T.length : Int) - ((j : Int) + 1)).toNat = T.length - (j + 1) := by omega
  refine ⟨((upFrom ((j : Int) + 1) (T.length - (j + 1))).filter fun x => match x with | .int i => (decide ((tk T i.toNat).a = (tk T j).a) && decide ((tk T i.toNat).b = (tk T j).b)) | _ => false).map fun x => .tup [.int j, x], ?_, ?_, ?_⟩
  · refine mLc_d rfl ?_ _ _ ?_ (by simp [upFrom]; omega)
    · simp -implicitDefEqProofs [miRange2, hr, hr2, e]
      try omega
    · intro x hx
      obtain ⟨i, hi, rfl⟩ := upFrom_mem hx
      have ei : (j : Int) + 1 + (i : Int) = ((j + 1 + i : Nat) : Int) := by omega
      rw [ei]
      refine ⟨[v0, v1, some (.d (.lst (T.map Tie.d))), v3, v4, v5, some (.d (.int j)), v7, v8, v9, v10, v11, some (.d (.int ((j + 1 + i : Nat) : Int))), v13, v14, v15], rfl, ?_, fun _ => ?_⟩
      · have g1 := gIx_ties (T := T) (k := j + 1 + i) (by omega) S
        have g2 := gIx_ties hj S
        have s1 := sl_tie (tk T (j + 1 + i)) S
        have s2 := sl_tie (tk T j) S
        show _ = some (decide ((tk T ((j + 1 + i : Nat) : Int).toNat).a = (tk T j).a) && decide ((tk T ((j + 1 + i : Nat) : Int).toNat).b = (tk T j).b), S)
        rw [Int.toNat_natCast]
        generalize tk T (j + 1 + i) = t1 at *
        generalize tk T j = t2 at *
        generalize ((j + 1 + i : Nat) : Int) = z at *
        have q := gEq_two t1.a t1.b t2.a t2.b S
        generalize t1.d = d1 at *
        generalize t2.d = d2 at *
        simp -implicitDefEqProofs [-gIx_lst, g1, g2, s1, s2, q]
      · simp -implicitDefEqProofs [sz2]
  · rw [List.length_map]
    refine Nat.le_trans (List.length_filter_le _ _) ?_
    rw [upFrom_length]
    omega
  · intro x hx
    obtain ⟨y, hy, rfl⟩ := List.mem_map.mp hx
    obtain ⟨h1, h2⟩ := List.mem_filter.mp hy
    obtain ⟨i, hi, rfl⟩ := upFrom_mem h1
    have ei : (j : Int) + 1 + (i : Int) = ((j + 1 + i : Nat) : Int) := by omega
    rw [ei] at h2 ⊢
    simp only [Bool.and_eq_true, decide_eq_true_eq, Int.toNat_natCast] at h2
    exact ⟨j, j + 1 + i, rfl, by omega, by omega, h2.1.symm, h2.2.symm⟩
/-- two taken out of a row -/
theorem two_out {T : List Tie} {j k : Nat} (h1 : j < k) (h2 : k < T.length) : T.Perm (tk T j :: tk T k :: (T.take j ++ (T.take k).drop (j + 1) ++ T.drop (k + 1))) := by
  have hj : j < T.length := by omega
  have e1 : T.drop k = T[k] :: T.drop (k + 1) := List.drop_eq_getElem_cons h2
  have e2 : T.drop j = T[j] :: T.drop (j + 1) := List.drop_eq_getElem_cons hj
  have e3 : T.drop (j + 1) = (T.take k).drop (j + 1) ++ T.drop k := by
    conv => lhs; rw [← List.take_append_drop k T]
    rw [List.drop_append_of_le_length (by simp; omega)]
  have e : T = T.take j ++ (T[j] :: ((T.take k).drop (j + 1) ++ (T[k] :: T.drop (k + 1)))) := by
    conv => lhs; rw [← List.take_append_drop j T, e2, e3, e1]
  rw [tk_get hj, tk_get h2]
  conv => lhs; rw [e]
  refine List.perm_middle.trans (List.Perm.cons _ ?_)
  rw [← List.append_assoc]
  exact List.perm_middle
theorem Part.den_le {r : Rat} {d : Nat} (h : Part r d) (h0 : d ≠ 0) : r.den ≤ d := by
  obtain ⟨n, e⟩ := h
  rw [Part.eq h0 e, Rat.den_divInt, if_neg (by omega)]
  refine Nat.le_trans (Nat.div_le_self _ _) ?_
  omega
end K50
end
section
set_option maxRecDepth 100000
namespace K50
open PySem L2 MW
theorem lcRev (T : List Tie) (hl : T.length ≤ 12) (v0 v1 v3 v4 v5 v6 v7 v8 v9 v10 v11 v12 : Option W) (S : Sto) :
    mLc .pure (miSeq (mVar 2)) (.tp [13, 14, 15]) tYesM (mTup (mCons (mVar 14) (mCons (mVar 13) (mCons (mVar 15) mNil)))) [13, 14, 15] [v0, v1, some (.d (.lst (T.map Tie.d))), v3, v4, v5, v6, v7, v8, v9, v10, v11, v12, none, none, none] S =
      some (.d (.lst ((T.map Tie.rev).map Tie.d)), S) := by
  have e : ((T.map Tie.d).filter fun _ => true).map (fun x => (Tie.of x).rev.d) = (T.map Tie.rev).map Tie.d := by
    rw [List.filter_eq_self.mpr fun _ _ => rfl, List.map_map, List.map_map]
    refine List.map_congr_left fun t _ => ?_
    show (Tie.of t.d).rev.d = t.rev.d
    rw [Tie.of_d]
  rw [← e]
  refine mLc_d rfl (miSeq_lst rfl) _ _ ?_ (by simp; omega)
  intro x hx
  obtain ⟨t, _, rfl⟩ := List.mem_map.mp hx
  refine ⟨[v0, v1, some (.d (.lst (T.map Tie.d))), v3, v4, v5, v6, v7, v8, v9, v10, v11, v12, some (.d (.int t.a)), some (.d (.int t.b)), some (.d (fr t.c))], rfl, rfl, fun _ => ?_⟩
  rw [Tie.of_d]
  have et : t.rev.d = .tup [.int t.b, .int t.a, fr t.c] := rfl
  rw [et]
  simp -implicitDefEqProofs [sz3]
theorem revOk {many : Int} {t : Tie} (h : TOk many t) : TOk many t.rev := ⟨h.b0, h.b1, h.a0, h.a1, fun e => h.ne e.symm, h.c0, h.c1, h.cd⟩
/-- the tie that stands for two -/
def twinT (t u : Tie) : Tie := ⟨t.a, t.b, 1 - (1 - t.c) * (1 - u.c)⟩
theorem twinOk {many : Int} {t u : Tie} (h : TOk many t) (k : TOk many u) (ht : t.c.den ≤ 10) (hu : u.c.den ≤ 10) : TOk many (twinT t u) := by
  have a0 : 0 ≤ 1 - t.c := by have := h.c1; grind
  have a1 : 1 - t.c ≤ 1 := by have := h.c0; grind
  have b0 : 0 ≤ 1 - u.c := by have := k.c1; grind
  have b1 : 1 - u.c ≤ 1 := by have := k.c0; grind
  have m0 := Rat.mul_nonneg a0 b0
  have m1 : (1 - t.c) * (1 - u.c) ≤ 1 := by
    have := Rat.mul_le_mul_of_nonneg_left b1 a0
    grind
  refine ⟨h.a0, h.a1, h.b0, h.b1, h.ne, ?_, ?_, ?_⟩
  · show 0 ≤ 1 - (1 - t.c) * (1 - u.c); grind
  · show 1 - (1 - t.c) * (1 - u.c) ≤ 1; grind
  · have p : Part (1 - (1 - t.c) * (1 - u.c)) (t.c.den * u.c.den) := ((Part.self t.c).rest.mul (Part.self u.c).rest).rest
    have hd := Part.den_le p (by have := Nat.mul_pos t.c.den_pos u.c.den_pos; omega)
    have : t.c.den * u.c.den ≤ 10 * 10 := Nat.mul_le_mul ht hu
    show (1 - (1 - t.c) * (1 - u.c)).den < 2 ^ 7
    have e7 : (2 : Nat) ^ 7 = 128 := by decide
    omega
theorem twin_not {t u : Tie} {many : Int} (h : TOk many t) (k : TOk many u) (S : Sto) : m__law_mul [.d (fr (1 - t.c)), .d (fr (1 - u.c))] S = some (.d (fr ((1 - t.c) * (1 - u.c))), S) := by
  have z1 : Sz (1 - t.c) 7 := (Part.self t.c).rest.sz t.c.den_nz h.cd (by have := h.c1; grind) (by have := h.c0; grind)
  have z2 : Sz (1 - u.c) 7 := (Part.self u.c).rest.sz u.c.den_nz k.cd (by have := k.c1; grind) (by have := k.c0; grind)
  exact law_mul_ok z1 z2 (by decide) (by decide) (by decide) S
end K50
end
section
set_option maxRecDepth 100000
namespace K50
open PySem L2 MW
def bTwin : MS := (sExpr (mMeth "list" gExtend (mVar 5) (mCons lcTw mNil)))
def bEnd : MS := (sSeq (sIf (mTest (mBin (gEq) (mVar 5) (mList .pure mNil))) (sRet (mC (.bl true))) sNil)
  (sSeq (sAsg (mBin gIx (mVar 5) (mC (.int 0))) (mgTup 2 (mgCons (mgName 6) (mgCons (mgName 12) mgNil))))
  (sSeq (sAsg (mBin (gAdd .pure) (mBin (gAdd .pure) (mBin (gAdd .pure) (mSl .pure (mVar 2) mNo (mSo (mVar 6))) (mList .pure (mCons (mBin (gAdd .pure) (mSl .pure (mBin gIx (mVar 2) (mVar 6)) mNo (mSo (mC (.int 2)))) (mTup (mCons (mCall m__law_not (mCons (mCall m__law_mul (mCons (mCall m__law_not (mCons (mBin gIx (mBin gIx (mVar 2) (mVar 6)) (mC (.int 2))) mNil)) (mCons (mCall m__law_not (mCons (mBin gIx (mBin gIx (mVar 2) (mVar 12)) (mC (.int 2))) mNil)) mNil))) mNil)) mNil))) mNil))) (mSl .pure (mVar 2) (mSo (mBin (gAdd .pure) (mVar 6) (mC (.int 1)))) (mSo (mVar 12)))) (mSl .pure (mVar 2) (mSo (mBin (gAdd .pure) (mVar 12) (mC (.int 1)))) mNo)) (mgName 7))
  (sSeq (sAsg (mBin gIx (mBin gIx (mVar 2) (mVar 6)) (mC (.int 0))) (mgName 4))
  (sRet (mCall (m__law_same 5) (mCons (mCall m__law_told (mCons (mTup (mCons (mVar 1) (mCons (mCall gTupOf (mCons (mCall (gSorted .pure) (mCons (mVar 7) mNil)) mNil)) mNil))) (mCons (mVar 4) (mCons (mVar 3) mNil)))) (mCons (mCall m__law_told (mCons (mVar 8) (mCons (mVar 4) (mCons (mNotV (mVar 3)) mNil)))) mNil))))))))
section
variable {many n : Nat} {T Ts : List Tie}
theorem tw_loop (hl : T.length ≤ 12) (v0 v1 v3 v4 v7 v8 v9 v10 v11 v13 v14 v15 : Option W) (A : Sto) (k : Wk) (hk : ∀ S, k.ok S = true) : ∀ (l : List Nat) (tw : List D) (v6 : Option W), (∀ j ∈ l, j < T.length) → (∀ x ∈ tw, Tw T x) → tw.length + 12 * l.length ≤ 1000 →
    ∃ v6' tw', MW.forM k (mgName 6) bTwin (l.map fun i : Nat => D.int (i : Int)) [v0, v1, some (.d (.lst (T.map Tie.d))), v3, v4, some (.ref A.length), v6, v7, v8, v9, v10, v11, none, v13, v14, v15] (A ++ [.lst tw]) =
      some (.nx [v0, v1, some (.d (.lst (T.map Tie.d))), v3, v4, some (.ref A.length), v6', v7, v8, v9, v10, v11, none, v13, v14, v15] (A ++ [.lst tw'])) ∧ (∀ x ∈ tw', Tw T x) ∧ tw'.length ≤ 1000
  | [], tw, v6, _, h, hz => ⟨v6, tw, by simp [MW.forM, hk], h, by simpa using hz⟩
  | j :: l, tw, v6, hj, h, hz => by
    obtain ⟨xs, q1, q2, q3⟩ := lcTw_ok (hj j List.mem_cons_self) hl v0 v1 v3 v4 (some (.ref A.length)) v7 v8 v9 v10 v11 v13 v14 v15 (A ++ [.lst tw])
    simp only [List.length_cons] at hz
    obtain ⟨v6', tw', i1, i2, i3⟩ := tw_loop hl v0 v1 v3 v4 v7 v8 v9 v10 v11 v13 v14 v15 A k hk l (tw ++ xs) (some (.d (.int j))) (fun i hi => hj i (List.mem_cons_of_mem _ hi)) (fun x hx => by
      rcases List.mem_append.mp hx with z | z
      · exact h x z
      · exact q3 x z) (by simp; omega)
    refine ⟨v6', tw', ?_, i2, i3⟩
    have g : (A ++ [.lst tw])[A.length]? = some (.lst tw) := g1 A (.lst tw) rfl
    have ex := extend_ref (ys := xs) g (by omega)
    rw [s1 A _ _ rfl] at ex
    have ty := ty_ref g
    rw [List.map_cons]
    generalize T.map Tie.d = Td at *
    generalize A ++ [Ob.lst tw] = S1 at *
    generalize A ++ [Ob.lst (tw ++ xs)] = S2 at *
    unfold MW.forM
    unfold bTwin at i1 ⊢
    rw [if_pos (hk _)]
    simp -implicitDefEqProofs [q1, ex, ty, i1]
theorem end_ok' {tw : List D} {A : Sto} (hs : Ts.Perm T) (hl : T.length ≤ 12) (ht : ∀ t ∈ T, TOk many t ∧ t.c.den ≤ 10) (N1 : Net many Ts) (htw : ∀ x ∈ tw, Tw T x) (hz : tw.length ≤ 1000) (b : Bool) (v0 v4 v6 v7 v9 v10 v11 v12 v13 v14 v15 : Option W) :
    bEnd [v0, some (.d (.int many)), some (.d (.lst (T.map Tie.d))), some (.d (.bl b)), v4, some (.ref A.length), v6, v7, some (.d (netD many Ts)), v9, v10, v11, v12, v13, v14, v15] (A ++ [.lst tw]) = some (.rt (.d (.bl true)) (A ++ [.lst tw])) := by
  have g : (A ++ [.lst tw])[A.length]? = some (.lst tw) := g1 A (.lst tw) rfl
  have shp : D.shp (.lst tw) = true := okD_shp (n := 3) (okD_l (by omega) fun x hx => by
    obtain ⟨j, k, rfl, _⟩ := (htw x hx).ex
    exact okD_t (by simp) fun y hy => by
      simp only [List.mem_cons, List.not_mem_nil, or_false] at hy
      rcases hy with rfl | rfl <;> trivial)
  have qe := gEq_empR g shp
  cases tw with
  | nil =>
    unfold bEnd
    simp -implicitDefEqProofs [qe]
  | cons x tw =>
    obtain ⟨j, k, rfl, h1, h2, h3, h4⟩ := (htw x List.mem_cons_self).ex
    have hj : j < T.length := by omega
    have o1 := ht _ (tk_mem hj)
    have o2 := ht _ (tk_mem h2)
    have gx : gIx (.ref A.length) (.d (.int 0)) (A ++ [.lst (.tup [.int j, .int k] :: tw)]) = some (.d (.tup [.int j, .int k]), A ++ [.lst (.tup [.int j, .int k] :: tw)]) := by
      rw [gIx_ref g]; simp
    generalize A ++ [Ob.lst (.tup [.int j, .int k] :: tw)] = S at *
    have gj := gIx_ties hj S
    have gk := gIx_ties h2 S
    have sj := sl_tie (tk T j) S
    have cj : gIx (.d (tk T j).d) (.d (.int 2)) S = some (.d (fr (tk T j).c), S) := rfl
    have ck : gIx (.d (tk T k).d) (.d (.int 2)) S = some (.d (fr (tk T k).c), S) := rfl
    have aj : gIx (.d (tk T j).d) (.d (.int 0)) S = some (.d (.int (tk T j).a), S) := rfl
    have n1 := law_not_ok (tk T j).c S
    have n2 := law_not_ok (tk T k).c S
    have mu := twin_not o1.1 o2.1 S
    have n3 := law_not_ok ((1 - (tk T j).c) * (1 - (tk T k).c)) S
    have c1 := cut_to (T.map Tie.d) j
    have c2 := cut_mid (T.map Tie.d) (j + 1) k
    have c3 := cut_from (T.map Tie.d) (k + 1)
    have ej : ((j : Int) + 1) = ((j + 1 : Nat) : Int) := by omega
    have ek : ((k : Int) + 1) = ((k + 1 : Nat) : Int) := by omega
    -- the merged row
    have em : ∀ u : D, u = (twinT (tk T j) (tk T k)).d → ((T.map Tie.d).take j ++ [u]) ++ ((T.map Tie.d).take k).drop (j + 1) ++ (T.map Tie.d).drop (k + 1) = (T.take j ++ [twinT (tk T j) (tk T k)] ++ (T.take k).drop (j + 1) ++ T.drop (k + 1)).map Tie.d := fun u hu => by
      rw [hu]; simp [List.map_take, List.map_drop]
    generalize hM : T.take j ++ [twinT (tk T j) (tk T k)] ++ (T.take k).drop (j + 1) ++ T.drop (k + 1) = M at em
    have pT := two_out h1 h2
    have pM : M.Perm (twinT (tk T j) (tk T k) :: (T.take j ++ (T.take k).drop (j + 1) ++ T.drop (k + 1))) := by
      rw [← hM]
      simp only [List.append_assoc, List.singleton_append]
      exact List.perm_middle
    have hMl : M.length ≤ 12 := by
      have a := pT.length_eq
      have b := pM.length_eq
      simp only [List.length_cons] at a b
      omega
    obtain ⟨Ms, p1, p2, p3⟩ := gSorted_ties .pure (w := .d (.lst (M.map Tie.d))) (S := S) rfl
    have hMok : ∀ t ∈ M, TOk many t := fun t htm => by
      rcases List.mem_cons.mp (pM.mem_iff.mp htm) with z | z
      · rw [z]; exact twinOk o1.1 o2.1 o1.2 o2.2
      · exact (ht t (pT.mem_iff.mpr (List.mem_cons_of_mem _ (List.mem_cons_of_mem _ z)))).1
    have NM : Net many Ms := ⟨N1.m0, N1.m1, by rw [p1.length_eq]; exact hMl, fun t htm => hMok t (p1.mem_iff.mp htm), p3⟩
    have a0 := o1.1.a0
    have a1 := o1.1.a1
    have t1 := told_ok NM a0 a1 b S
    have t2 := told_ok N1 a0 a1 (!b) S
    have eT : toldD many Ms (tk T j).a = toldD many Ts (tk T j).a := by
      have tw : ∀ G, RX (tk T j :: tk T k :: (T.take j ++ (T.take k).drop (j + 1) ++ T.drop (k + 1))) [(tk T j).a] G = RX (twinT (tk T j) (tk T k) :: (T.take j ++ (T.take k).drop (j + 1) ++ T.drop (k + 1))) [(tk T j).a] G := fun G =>
        RX.twin _ _ G h3 h4 rfl rfl rfl
      have key : ∀ G, RX Ms [(tk T j).a] G = RX Ts [(tk T j).a] G := fun G => by
        rw [RX.perm (p1.trans pM) (fun _ => Iff.rfl), ← tw, RX.perm (hs.trans pT) (fun _ => Iff.rfl)]
      unfold toldD rowD
      rw [key]
      have e2 : ((List.range many).map fun i : Nat => fr (RX Ms [(tk T j).a] fun R => R (i : Int))) = (List.range many).map fun i : Nat => fr (RX Ts [(tk T j).a] fun R => R (i : Int)) :=
        List.map_congr_left fun i _ => by rw [key]
      rw [e2]
    rw [eT] at t1
    have sm := same_told (many := many) (T := Ts) (one := (tk T j).a) N1.m1 S
    have ud : (.tup [.int (tk T j).a, .int (tk T j).b, fr (1 - (1 - (tk T j).c) * (1 - (tk T k).c))] : D) = (twinT (tk T j) (tk T k)).d := rfl
    have em' := em _ ud
    have lj : (T.map Tie.d).length = T.length := by simp
    have z1 : 1 ≤ sizeLine := by rw [sizeLine_eq]; decide
    have z3 := sz3
    have z2 := sz2
    have zs : ∀ m : Nat, m ≤ 1000 → m ≤ sizeLine := fun m hm => by rw [sizeLine_eq]; omega
    have gt : gTupOf [.d (.lst (Ms.map Tie.d))] S = some (.d (.tup (Ms.map Tie.d)), S) := (rfl : _ = _).trans rfl
    have en : (.tup [.int many, .tup (Ms.map Tie.d)] : D) = netD many Ms := rfl
    have q0 : ((T.map Tie.d).take j).length + ((T.map Tie.d).take k).length + (T.map Tie.d).length ≤ 100 := by simp; omega
    have l2 : (((T.map Tie.d).take k).drop (j + 1)).length ≤ ((T.map Tie.d).take k).length := by simp
    have l3 : ((T.map Tie.d).drop (k + 1)).length ≤ (T.map Tie.d).length := by simp
    generalize (T.map Tie.d).take j = A1 at *
    generalize ((T.map Tie.d).take k).drop (j + 1) = A2 at *
    generalize (T.map Tie.d).drop (k + 1) = A3 at *
    have q1 : A1.length + 1 ≤ sizeLine := zs _ (by omega)
    have q2 : A1.length + 1 + A2.length ≤ sizeLine := zs _ (by omega)
    have q2' : A1.length + (A2.length + 1) ≤ sizeLine := zs _ (by omega)
    have q3 : A1.length + 1 + A2.length + A3.length ≤ sizeLine := zs _ (by omega)
    have q3' : A1.length + (A2.length + 1) + A3.length ≤ sizeLine := zs _ (by omega)
    generalize T.map Tie.d = Td at *
    generalize M.map Tie.d = Md at *
    generalize Ms.map Tie.d = Msd at *
    rw [← en] at t1
    generalize toldD many Ts (tk T j).a = td at *
    generalize netD many Ts = n1' at *
    generalize (tk T j).d = d1 at *
    generalize (tk T k).d = d2 at *
    generalize fr (1 - (1 - (tk T j).c) * (1 - (tk T k).c)) = f3 at *
    generalize fr ((1 - (tk T j).c) * (1 - (tk T k).c)) = f2 at *
    generalize fr (1 - (tk T j).c) = fa at *
    generalize fr (1 - (tk T k).c) = fb at *
    generalize fr (tk T j).c = fc at *
    generalize fr (tk T k).c = fd at *
    generalize (tk T j).a = ta at *
    generalize (tk T j).b = tb at *
    unfold bEnd
    simp only [List.append_assoc, List.singleton_append, List.cons_append, List.nil_append] at em'
    simp -implicitDefEqProofs [-gIx_lst, qe, gx, gj, gk, sj, cj, ck, aj, n1, n2, mu, n3, gSl_lst, c1, c2, c3, ej, ek, -Int.natCast_add, em', p2, gt, t1, t2, sm, z1, z2, z3, q1, q2, q2', q3, q3', zs 3 (by decide)]
end
end K50
end
section
set_option maxRecDepth 100000
namespace K50
open PySem L2 MW
theorem net_right_is : b__law_net_right = (sSeq (sPar 8 9 (mCons (mTup (mCons (mVar 1) (mCons (mCall gTupOf (mCons (mCall (gSorted .pure) (mCons (mVar 2) mNil)) mNil)) mNil))) (mCons (mTup (mCons (mVar 1) (mCons (mCall gTupOf (mCons (mCall (gSorted .pure) (mCons (mLc .pure (miSeq (mVar 2)) (.tp [13, 14, 15]) tYesM (mTup (mCons (mVar 14) (mCons (mVar 13) (mCons (mVar 15) mNil)))) [13, 14, 15]) mNil)) mNil)) mNil))) mNil)))
  (sSeq (sFor (miSeq (mSl .pure (mCall m__law_mixed (mCons (mVar 0) (mCons (mLstRg1 .pure (mVar 1)) mNil))) mNo (mSo (mC (.int 2))))) (mgName 4) bOne)
  (sSeq (sAsg (mList .own mNil) (mgName 5))
  (sSeq (sFor (miRange1 (mCons (mCall gLen (mCons (mVar 2) mNil)) mNil)) (mgName 6) bTwin) bEnd)))) := rfl
section
variable {many n : Nat} {T Ts Tb : List Tie}
theorem ones_loop {S0 : Sto} (hs : Ts.Perm T) (hb : Tb.Perm (T.map Tie.rev)) (hl : T.length ≤ 12) (ht : ∀ t ∈ T, TOk many t) (N1 : Net many Ts) (N2 : Net many Tb) (v5 v6 v7 v12 v13 v14 v15 : Option W) (k : Wk) (hk : ∀ S, k.ok S = true) : ∀ (l : List Int) (c : Nat) (b : Bool) (o : Ob) (v4 v10 v11 : Option W), (∀ x ∈ l, 0 ≤ x ∧ x < many) → Bx (S0.set n o) n c → c + 100 + 10 * l.length < 1000000 →
    ∃ b' v4' v10' v11' o', MW.forM k (mgName 4) bOne (l.map D.int) [some (.ref n), some (.d (.int many)), some (.d (.lst (T.map Tie.d))), some (.d (.bl b)), v4, v5, v6, v7, some (.d (netD many Ts)), some (.d (netD many Tb)), v10, v11, v12, v13, v14, v15] (S0.set n o) =
      some (.nx [some (.ref n), some (.d (.int many)), some (.d (.lst (T.map Tie.d))), some (.d (.bl b')), v4', v5, v6, v7, some (.d (netD many Ts)), some (.d (netD many Tb)), v10', v11', v12, v13, v14, v15] (S0.set n o')) ∧ Bx (S0.set n o') n (c + 10 * l.length)
  | [], c, b, o, v4, v10, v11, _, hB, _ => ⟨b, v4, v10, v11, o, by simp [MW.forM, hk], by simpa using hB⟩
  | x :: l, c, b, o, v4, v10, v11, h, hB, hc => by
    obtain ⟨x0, x1⟩ := h x List.mem_cons_self
    simp only [List.length_cons] at hc
    obtain ⟨b1, w11, o1, q1, q2⟩ := one_turn hB (by omega) hs hb hl ht N1 N2 x0 x1 b v5 v6 v7 v10 v11 v12 v13 v14 v15
    rw [set_set] at q1 q2
    have hm := N1.m1
    obtain ⟨b', v4', v10', v11', o', i1, i2⟩ := ones_loop hs hb hl ht N1 N2 v5 v6 v7 v12 v13 v14 v15 k hk l (c + 10) b1 o1 (some (.d (.int x))) (some (.d (toldD many T x))) w11 (fun y hy => h y (List.mem_cons_of_mem _ hy)) (q2.mono (by omega)) (by omega)
    refine ⟨b', v4', v10', v11', o', ?_, i2.mono (by simp only [List.length_cons]; omega)⟩
    rw [List.map_cons]
    generalize netD many Ts = n1 at *
    generalize netD many Tb = n2 at *
    generalize toldD many T x = td at *
    generalize T.map Tie.d = Td at *
    unfold MW.forM
    rw [if_pos (hk _)]
    simp -implicitDefEqProofs [q1, i1]
theorem net_right_ok {S : Sto} {c : Nat} (hB : Bx S n c) (hc : c + 500 < 1000000) (m0 : 1 ≤ many) (m1 : many ≤ 10) (hl : T.length ≤ 12) (ht : ∀ t ∈ T, TOk many t ∧ t.c.den ≤ 10) (b : Bool) :
    ∃ o, m__law_net_right [.ref n, .d (.int many), .d (.lst (T.map Tie.d)), .d (.bl b)] S = some (.d (.bl true), S.set n o) ∧ Bx (S.set n o) n (c + 100) := by
  obtain ⟨Ts, s1', s2', s3'⟩ := gSorted_ties .pure (w := .d (.lst (T.map Tie.d))) (S := S) rfl
  obtain ⟨Tb, t1', t2', t3'⟩ := gSorted_ties .pure (w := .d (.lst ((T.map Tie.rev).map Tie.d))) (S := S) rfl
  have ht1 : ∀ t ∈ T, TOk many t := fun t h => (ht t h).1
  have N1 : Net many Ts := ⟨m0, m1, by rw [s1'.length_eq]; exact hl, fun t h => ht1 t (s1'.mem_iff.mp h), s3'⟩
  have N2 : Net many Tb := ⟨m0, m1, by rw [t1'.length_eq]; simpa using hl, fun t h => by
    obtain ⟨u, hu, rfl⟩ := List.mem_map.mp (t1'.mem_iff.mp h)
    exact revOk (ht1 u hu), t3'⟩
  have lc := fun v4 v5 v6 v7 v8 v9 v10 v11 v12 => lcRev T hl (some (.ref n)) (some (.d (.int many))) (some (.d (.bl b))) v4 v5 v6 v7 v8 v9 v10 v11 v12 S
  obtain ⟨ys, o, k1, k2, k3⟩ := some_ok hB (by omega) (many := many) (by omega)
  have hin : ∀ x ∈ ys.take 2, 0 ≤ x ∧ x < many := fun x hx => below_of k2 (List.mem_of_mem_take hx)
  have hyl : (ys.take 2).length ≤ 2 := by simp; omega
  obtain ⟨b', v4', v10', v11', o', f1, f2⟩ := ones_loop (S0 := S) s1' t1' hl ht1 N1 N2 none none none none none none none ⟨(ys.take 2).map D.int, none⟩ (fun _ => rfl) (ys.take 2) (c + many) b o none none none hin k3 (by omega)
  obtain ⟨v6', tw', g1', g2', g3'⟩ := tw_loop hl (some (.ref n)) (some (.d (.int many))) (some (.d (.bl b'))) v4' none (some (.d (netD many Ts))) (some (.d (netD many Tb))) v10' v11' none none none (S.set n o') ⟨(List.range T.length).map fun i : Nat => D.int (i : Int), none⟩ (fun _ => rfl) (List.range T.length) [] none (fun j hj => List.mem_range.mp hj) (fun x hx => by cases hx) (by simp; omega)
  have en := end_ok' (A := S.set n o') s1' hl ht N1 g2' g3' b' (some (.ref n)) v4' v6' none (some (.d (netD many Tb))) v10' v11' none none none none
  refine ⟨o', ?_, f2.mono (by omega)⟩
  have mi1 : ∀ e8 e9, miSeq (mSl .pure (mCall m__law_mixed (mCons (mVar 0) (mCons (mLstRg1 .pure (mVar 1)) mNil))) mNo (mSo (mC (.int 2)))) [some (.ref n), some (.d (.int many)), some (.d (.lst (T.map Tie.d))), some (.d (.bl b)), none, none, none, none, e8, e9, none, none, none, none, none, none] S = some (⟨(ys.take 2).map D.int, none⟩, S.set n o) := fun e8 e9 => by
    refine miSeq_lst ?_
    have lr1 := lstRg (f := mVar 1) (env := [some (.ref n), some (.d (.int many)), some (.d (.lst (T.map Tie.d))), some (.d (.bl b)), none, none, none, none, e8, e9, none, none, none, none, none, none]) (S := S) (many := many) (by omega) rfl
    simp -implicitDefEqProofs [lr1, k1, gSl_lst, cut2]
  have eu : upFrom 0 T.length = (List.range T.length).map fun i : Nat => D.int (i : Int) := by
    unfold upFrom
    refine List.map_congr_left fun i _ => ?_
    rw [Int.zero_add]
  have hr : (T.length : Int) < 4611686018427387904 := by omega
  have mi2 : ∀ e3 e4 e5 e8 e9 e10 e11 S, miRange1 (mCons (mCall gLen (mCons (mVar 2) mNil)) mNil) [some (.ref n), some (.d (.int many)), some (.d (.lst (T.map Tie.d))), e3, e4, e5, none, none, e8, e9, e10, e11, none, none, none, none] S = some (⟨(List.range T.length).map fun i : Nat => D.int (i : Int), none⟩, S) := fun _ _ _ _ _ _ _ S => by
    rw [← eu]
    simp -implicitDefEqProofs [miRange1, hr]
  have gt : ∀ xs S, gTupOf [.d (.lst xs)] S = some (.d (.tup xs), S) := fun _ _ => (rfl : _ = _).trans rfl
  have en1 : (.tup [.int many, .tup (Ts.map Tie.d)] : D) = netD many Ts := rfl
  have en2 : (.tup [.int many, .tup (Tb.map Tie.d)] : D) = netD many Tb := rfl
  have lenA : (S.set n o').length = S.length := List.length_set
  rw [lenA] at g1' en
  rw [← en1, ← en2] at f1 g1' en
  generalize (T.map Tie.rev).map Tie.d = Tr at *
  generalize T.map Tie.d = Td at *
  generalize Ts.map Tie.d = Tsd at *
  generalize Tb.map Tie.d = Tbd at *
  generalize hy : (ys.take 2).map D.int = yd at *
  generalize (List.range T.length).map (fun i : Nat => D.int (i : Int)) = rd at *
  have z0 : 0 ≤ sizeLine := Nat.zero_le _
  simp -implicitDefEqProofs [m__law_net_right, runDef, net_right_is, startE, s2', lc, t2', gt, sz2, mi1, f1, z0, mi2, g1', en, fin]
end
end K50
end
section
set_option maxRecDepth 100000
namespace K50
open PySem L2 MW
structure GoodC (c : Rat) : Prop where
  c0 : 0 ≤ c
  c1 : c ≤ 1
  cd : c.den ≤ 10
def GoodD (x : D) : Prop := ∃ c, x = fr c ∧ GoodC c
theorem good_mk (a b : Nat) (h : b ≠ 0) (hc : Nat.gcd a b = 1) (hab : a ≤ b) (hb : b ≤ 10) : GoodD (.tup [.int a, .int b]) := by
  refine ⟨⟨(a : Int), b, h, by simpa using hc⟩, rfl, ?_, ?_, hb⟩
  · exact Rat.num_nonneg.mp (by show (0 : Int) ≤ a; omega)
  · rw [Rat.le_iff]
    show (a : Int) * ((1 : Rat).den : Int) ≤ (1 : Rat).num * (b : Int)
    have e1 : ((1 : Rat).den : Int) = 1 := rfl
    have e2 : (1 : Rat).num = 1 := rfl
    rw [e1, e2]
    omega
def chs : List D := [.tup [.int 0, .int 1], .tup [.int 1, .int 1], .tup [.int 1, .int 2], .tup [.int 1, .int 2], .tup [.int 1, .int 3], .tup [.int 2, .int 3], .tup [.int 1, .int 4], .tup [.int 3, .int 4], .tup [.int 5, .int 6], .tup [.int 1, .int 7], .tup [.int 9, .int 10]]
def sus : List D := [.tup [.int 1, .int 1], .tup [.int 1, .int 2], .tup [.int 2, .int 3], .tup [.int 3, .int 4], .tup [.int 5, .int 6], .tup [.int 9, .int 10], .tup [.int 1, .int 2]]
theorem chs_good : ∀ x ∈ chs, GoodD x := by
  intro x hx
  unfold chs at hx
  simp only [List.mem_cons, List.not_mem_nil, or_false] at hx
  rcases hx with rfl | rfl | rfl | rfl | rfl | rfl | rfl | rfl | rfl | rfl | rfl
  · exact good_mk 0 1 (by decide) (by decide) (by decide) (by decide)
  · exact good_mk 1 1 (by decide) (by decide) (by decide) (by decide)
  · exact good_mk 1 2 (by decide) (by decide) (by decide) (by decide)
  · exact good_mk 1 2 (by decide) (by decide) (by decide) (by decide)
  · exact good_mk 1 3 (by decide) (by decide) (by decide) (by decide)
  · exact good_mk 2 3 (by decide) (by decide) (by decide) (by decide)
  · exact good_mk 1 4 (by decide) (by decide) (by decide) (by decide)
  · exact good_mk 3 4 (by decide) (by decide) (by decide) (by decide)
  · exact good_mk 5 6 (by decide) (by decide) (by decide) (by decide)
  · exact good_mk 1 7 (by decide) (by decide) (by decide) (by decide)
  · exact good_mk 9 10 (by decide) (by decide) (by decide) (by decide)
theorem sus_good : ∀ x ∈ sus, GoodD x := by
  intro x hx
  unfold sus at hx
  simp only [List.mem_cons, List.not_mem_nil, or_false] at hx
  rcases hx with rfl | rfl | rfl | rfl | rfl | rfl | rfl
  · exact good_mk 1 1 (by decide) (by decide) (by decide) (by decide)
  · exact good_mk 1 2 (by decide) (by decide) (by decide) (by decide)
  · exact good_mk 2 3 (by decide) (by decide) (by decide) (by decide)
  · exact good_mk 3 4 (by decide) (by decide) (by decide) (by decide)
  · exact good_mk 5 6 (by decide) (by decide) (by decide) (by decide)
  · exact good_mk 9 10 (by decide) (by decide) (by decide) (by decide)
  · exact good_mk 1 2 (by decide) (by decide) (by decide) (by decide)
theorem chance_ok {S : Sto} {n c : Nat} (hB : Bx S n c) (hc : c < 1000000) : ∃ (q : Rat) (o : Ob), m__law_chance [.ref n] S = some (.d (fr q), S.set n o) ∧ GoodC q ∧ Bx (S.set n o) n (c + 1) := by
  obtain ⟨k, hk, o, h1, h2⟩ := pick_ok (w := .d (.lst chs)) (xs := chs) hB hc rfl (by simp) (by decide) (by decide)
  obtain ⟨q, e, g⟩ := chs_good _ (List.getElem_mem hk)
  rw [e] at h1
  refine ⟨q, o, ?_, g, h2⟩
  have z11 : 11 ≤ sizeLine := by rw [sizeLine_eq]; decide
  unfold chs at h1
  simp -implicitDefEqProofs [m__law_chance, runDef, b__law_chance, startE, sz2, z11, h1, fin]
theorem sure_ok {S : Sto} {n c : Nat} (hB : Bx S n c) (hc : c < 1000000) : ∃ (q : Rat) (o : Ob), m__law_sure [.ref n] S = some (.d (fr q), S.set n o) ∧ GoodC q ∧ Bx (S.set n o) n (c + 1) := by
  obtain ⟨k, hk, o, h1, h2⟩ := pick_ok (w := .d (.lst sus)) (xs := sus) hB hc rfl (by simp) (by decide) (by decide)
  obtain ⟨q, e, g⟩ := sus_good _ (List.getElem_mem hk)
  rw [e] at h1
  refine ⟨q, o, ?_, g, h2⟩
  have z7 : 7 ≤ sizeLine := by rw [sizeLine_eq]; decide
  unfold sus at h1
  simp -implicitDefEqProofs [m__law_sure, runDef, b__law_sure, startE, sz2, z7, h1, fin]
end K50
end
section
set_option maxRecDepth 100000
namespace K50
open PySem L2 MW
structure GoodT (many : Int) (t : Tie) : Prop where
  a0 : 0 ≤ t.a
  a1 : t.a < many
  b0 : 0 ≤ t.b
  b1 : t.b < many
  ne : t.a ≠ t.b
  gc : GoodC t.c
theorem GoodT.ok {many : Int} {t : Tie} (h : GoodT many t) : TOk many t ∧ t.c.den ≤ 10 := by
  have := h.gc.cd
  have e7 : (2 : Nat) ^ 7 = 128 := by decide
  exact ⟨⟨h.a0, h.a1, h.b0, h.b1, h.ne, h.gc.c0, h.gc.c1, by omega⟩, h.gc.cd⟩
/-- the first two of a mixed row -/
theorem two_of {ys : List Int} {many : Nat} (h : ys.Perm ((List.range many).map fun i : Nat => (i : Int))) (hm : 2 ≤ many) : ∃ a b r, ys = a :: b :: r ∧ 0 ≤ a ∧ a < many ∧ 0 ≤ b ∧ b < many ∧ a ≠ b := by
  have hl := h.length_eq
  simp at hl
  have nd : ys.Nodup := (List.Perm.nodup_iff h).mpr (List.Pairwise.map _ (fun a b h e => h (by exact_mod_cast e)) List.nodup_range)
  match ys, hl, h, nd with
  | a :: b :: r, _, h, nd =>
    have ha := below_of h (x := a) (by simp)
    have hb := below_of h (x := b) (by simp)
    refine ⟨a, b, r, rfl, ha.1, ha.2, hb.1, hb.2, fun e => ?_⟩
    subst e
    simp at nd
  | [a], hl, _, _ => simp at hl; omega
  | [], hl, _, _ => simp at hl; omega
def bNt : MS := (sSeq (sAsg (mAndV (mBin (gNe) (mVar 3) (mList .pure mNil)) (mBin (gEq) (mCall m__law_take (mCons (mVar 0) (mCons (mC (.int 4)) mNil))) (mC (.int 0)))) (mgName 6))
  (sSeq (sAsg (mSl .pure (mCall m__law_mixed (mCons (mVar 0) (mCons (mLstRg1 .pure (mVar 2)) mNil))) mNo (mSo (mC (.int 2)))) (mgTL 2 (mgCons (mgName 8) (mgCons (mgName 9) mgNil))))
  (sSeq (sAsg (mIf (mTest (mVar 6)) (mCall m__law_pick (mCons (mVar 0) (mCons (mVar 3) mNil))) (mTup (mCons (mVar 8) (mCons (mVar 9) (mCons (mCall m__law_chance (mCons (mVar 0) mNil)) mNil))))) (mgName 7))
  (sExpr (mMeth "list" gAppend (mVar 3) (mCons (mIf (mAnd (mTest (mVar 6)) (mTest (mBin (gEq) (mCall m__law_take (mCons (mVar 0) (mCons (mC (.int 2)) mNil))) (mC (.int 0))))) (mTup (mCons (mBin gIx (mVar 7) (mC (.int 1))) (mCons (mBin gIx (mVar 7) (mC (.int 0))) (mCons (mBin gIx (mVar 7) (mC (.int 2))) mNil)))) (mVar 7)) mNil))))))
section
variable {n m many : Nat} {S0 : Sto}
/-- the store while a net is made: the box at n, the ties at m -/
structure NS (S0 : Sto) (n m : Nat) (many : Int) (c : Nat) (S : Sto) (L : List Tie) : Prop where
  bx : Bx S n c
  tl : S[m]? = some (.lst (L.map Tie.d))
  ne : n ≠ m
  ok : ∀ t ∈ L, GoodT many t
  tk : ∃ o, S.take S0.length = S0.set n o
  nl : n < S0.length
  ml : S0.length ≤ m
theorem shpT (L : List Tie) (h : L.length ≤ 1000) : D.shp (.lst (L.map Tie.d)) = true := okD_shp (n := 4) (okT L 0 h)
end
end K50
end
section
set_option maxRecDepth 100000
namespace K50
open PySem L2 MW
section
variable {n m many c : Nat} {S0 S : Sto} {L : List Tie}
theorem NS.setN (h : NS S0 n m many c S L) {o : Ob} {c' : Nat} (hB : Bx (S.set n o) n c') : NS S0 n m many c' (S.set n o) L := by
  refine ⟨hB, by rw [get_set_ne h.ne]; exact h.tl, h.ne, h.ok, ?_, h.nl, h.ml⟩
  obtain ⟨o', e⟩ := h.tk
  exact ⟨o, by rw [List.take_set, e, set_set]⟩
theorem NS.setM (h : NS S0 n m many c S L) {t : Tie} (ht : GoodT many t) : NS S0 n m many c (S.set m (.lst ((L ++ [t]).map Tie.d))) (L ++ [t]) := by
  have hml : m < S.length := by
    have := h.tl
    cases e : S[m]? with
    | none => rw [e] at this; cases this
    | some x => exact (List.getElem?_eq_some_iff.mp e).1
  refine ⟨?_, get_set hml, h.ne, fun x hx => ?_, ?_, h.nl, h.ml⟩
  · obtain ⟨b0, fl, sd, c', q1, q2⟩ := h.bx
    exact ⟨b0, fl, sd, c', by rw [get_set_ne (Ne.symm h.ne)]; exact q1, q2⟩
  · rcases List.mem_append.mp hx with z | z
    · exact h.ok x z
    · rw [List.mem_singleton.mp z]; exact ht
  · obtain ⟨o', e⟩ := h.tk
    exact ⟨o', by rw [List.take_set_of_le h.ml, e]⟩
theorem nt_turn (h : NS S0 n m many c S L) (h2 : 2 ≤ many) (hm : many ≤ 10) (hc : c + 100 < 1000000) (hL : L.length ≤ 500) (v1 v4 v5 v6 v7 v8 v9 v10 : Option W) :
    ∃ t w6 w7 w8 w9 S', bNt [some (.ref n), v1, some (.d (.int many)), some (.ref m), v4, v5, v6, v7, v8, v9, v10] S = some (.nx [some (.ref n), v1, some (.d (.int many)), some (.ref m), v4, v5, w6, w7, w8, w9, v10] S') ∧ NS S0 n m many (c + 20) S' (L ++ [t]) := by
  have shp := shpT L (by omega)
  have qe := gNe_empR h.tl shp
  have nm : (.ref m : W) ≠ .ref n := fun z => h.ne (W.ref.inj z).symm
  -- the fresh tie, from a store with the box at c1
  have fresh : ∀ (S1 : Sto) (c1 : Nat), NS S0 n m many c1 S1 L → c1 ≤ c + 2 → ∃ (a b : Int) (q : Rat) (r : List Int) (o1 o2 : Ob), m__law_mixed [.ref n, .d (.lst (upFrom 0 many))] S1 = some (.d (.lst (D.int a :: D.int b :: r.map D.int)), S1.set n o1) ∧ m__law_chance [.ref n] (S1.set n o1) = some (.d (fr q), S1.set n o2) ∧
      GoodT many ⟨a, b, q⟩ ∧ NS S0 n m many (c + 20) (S1.set n o2) L := by
    intro S1 c1 h1 hc1
    obtain ⟨ys, o, k1, k2, k3⟩ := some_ok h1.bx (by omega) (many := many) (by omega)
    obtain ⟨a, b, r, rfl, a0, a1, b0, b1, ne⟩ := two_of k2 h2
    obtain ⟨q, o2, q1, q2, q3⟩ := chance_ok k3 (by omega)
    rw [set_set] at q1 q3
    exact ⟨a, b, q, r, o, o2, k1, q1, ⟨a0, a1, b0, b1, ne, q2⟩, h1.setN (q3.mono (by omega))⟩
  have lr : ∀ w6 S1, mLstRg1 .pure (mVar 2) [some (.ref n), v1, some (.d (.int many)), some (.ref m), v4, v5, w6, v7, v8, v9, v10] S1 = some (.d (.lst (upFrom 0 many)), S1) := fun w6 S1 => lstRg (by omega) rfl
  by_cases hLe : L = []
  · subst hLe
    obtain ⟨a, b, q, r, o1, o2, f1, f2, f3, f4⟩ := fresh S c h (by omega)
    have ap := append_ref (x := (⟨a, b, q⟩ : Tie).d) f4.tl (by simp)
    have ty := ty_ref f4.tl
    have ed : (⟨a, b, q⟩ : Tie).d = .tup [.int a, .int b, fr q] := rfl
    have e2 : ([].map Tie.d ++ [(⟨a, b, q⟩ : Tie).d]) = ([] ++ [(⟨a, b, q⟩ : Tie)]).map Tie.d := by simp
    rw [e2] at ap
    have fin' := f4.setM f3
    generalize hX : (S.set n o2).set m (.lst (([] ++ [(⟨a, b, q⟩ : Tie)]).map Tie.d)) = X at ap fin'
    refine ⟨⟨a, b, q⟩, some (.d (.bl false)), some (.d (.tup [.int a, .int b, fr q])), some (.d (.int a)), some (.d (.int b)), X, ?_, fin'⟩
    rw [ed] at ap
    have qe' : gNe (.ref m) (.d (.lst [])) S = some (.d (.bl false), S) := qe
    unfold bNt
    simp -implicitDefEqProofs [qe', lr, f1, gSl_lst, cut2, mgTL_lst, f2, sz3, ty, ap]
  · have qe' : gNe (.ref m) (.d (.lst [])) S = some (.d (.bl true), S) := by
      rw [qe]
      have : (L.map Tie.d).isEmpty = false := by simpa using hLe
      rw [this]; rfl
    obtain ⟨r4, o4, u1, u2, u3, u4⟩ := take_ok h.bx (by omega) (many := 4) (by decide) (by decide)
    have hS1 := h.setN u4
    have hlen : 0 < (L.map Tie.d).length := by
      rw [List.length_map]; exact List.length_pos_iff.mpr hLe
    by_cases hr4 : r4 = 0
    · subst hr4
      obtain ⟨ys, o5, k1, k2, k3⟩ := some_ok hS1.bx (by omega) (many := many) (by omega)
      obtain ⟨a, b, r, rfl, _⟩ := two_of k2 h2
      have hS2 := hS1.setN (k3.mono (Nat.le_refl _))
      rw [set_set] at k1 k3 hS2
      obtain ⟨k, hk, o6, p1, p2⟩ := pick_ok (w := .ref m) hS2.bx (by omega) (list_ref hS2.tl) nm hlen (by simp; omega)
      have hS3 := hS2.setN p2
      rw [set_set] at p1 p2 hS3
      have hkL : k < L.length := by simpa using hk
      have et : (L.map Tie.d)[k] = L[k].d := List.getElem_map ..
      rw [et] at p1
      have hgood := h.ok _ (List.getElem_mem hkL)
      obtain ⟨r2, o7, w1, w2, w3, w4⟩ := take_ok hS3.bx (by omega) (many := 2) (by decide) (by decide)
      have hS4 := hS3.setN w4
      rw [set_set] at w1 w4 hS4
      generalize L[k] = t at p1 hgood
      have et : t.d = .tup [.int t.a, .int t.b, fr t.c] := rfl
      have hS5 : NS S0 n m many (c + 20) (S.set n o7) L := ⟨hS4.bx.mono (by omega), hS4.tl, hS4.ne, hS4.ok, hS4.tk, hS4.nl, hS4.ml⟩
      have ty := ty_ref hS5.tl
      have ty3 := ty_ref hS3.tl
      by_cases hr2 : r2 = 0
      · subst hr2
        have hg : GoodT many ⟨t.b, t.a, t.c⟩ := ⟨hgood.b0, hgood.b1, hgood.a0, hgood.a1, fun e => hgood.ne e.symm, hgood.gc⟩
        have ap := append_ref (x := (⟨t.b, t.a, t.c⟩ : Tie).d) hS5.tl (by simp; omega)
        have e2 : (L.map Tie.d ++ [(⟨t.b, t.a, t.c⟩ : Tie).d]) = (L ++ [(⟨t.b, t.a, t.c⟩ : Tie)]).map Tie.d := by simp
        have ed : (⟨t.b, t.a, t.c⟩ : Tie).d = .tup [.int t.b, .int t.a, fr t.c] := rfl
        rw [e2] at ap
        have fin' := hS5.setM hg
        generalize (S.set n o7).set m (.lst ((L ++ [(⟨t.b, t.a, t.c⟩ : Tie)]).map Tie.d)) = X at ap fin'
        refine ⟨⟨t.b, t.a, t.c⟩, some (.d (.bl true)), some (.d t.d), some (.d (.int a)), some (.d (.int b)), X, ?_, fin'⟩
        rw [ed] at ap
        rw [et] at p1 ⊢
        unfold bNt
        simp -implicitDefEqProofs [qe', u1, lr, k1, gSl_lst, cut2, mgTL_lst, p1, w1, sz3, ty, ty3, ap]
      · have ap := append_ref (x := t.d) hS5.tl (by simp; omega)
        have e2 : (L.map Tie.d ++ [t.d]) = (L ++ [t]).map Tie.d := by simp
        rw [e2] at ap
        have fin' := hS5.setM hgood
        generalize (S.set n o7).set m (.lst ((L ++ [t]).map Tie.d)) = X at ap fin'
        refine ⟨t, some (.d (.bl true)), some (.d t.d), some (.d (.int a)), some (.d (.int b)), X, ?_, fin'⟩
        generalize t.d = td at p1 ap ⊢
        unfold bNt
        simp -implicitDefEqProofs [qe', u1, lr, k1, gSl_lst, cut2, mgTL_lst, p1, w1, hr2, sz3, ty, ty3, ap]
    · obtain ⟨a, b, q, r, o1, o2, f1, f2, f3, f4⟩ := fresh (S.set n o4) (c + 1) hS1 (by omega)
      have ap := append_ref (x := (⟨a, b, q⟩ : Tie).d) f4.tl (by simp; omega)
      have ty := ty_ref f4.tl
      have ed : (⟨a, b, q⟩ : Tie).d = .tup [.int a, .int b, fr q] := rfl
      have e2 : (L.map Tie.d ++ [(⟨a, b, q⟩ : Tie).d]) = (L ++ [(⟨a, b, q⟩ : Tie)]).map Tie.d := by simp
      rw [e2] at ap
      have fin' := f4.setM f3
      rw [set_set] at f1 f2 ap ty fin'
      generalize (S.set n o2).set m (.lst ((L ++ [(⟨a, b, q⟩ : Tie)]).map Tie.d)) = X at ap fin'
      refine ⟨⟨a, b, q⟩, some (.d (.bl false)), some (.d (.tup [.int a, .int b, fr q])), some (.d (.int a)), some (.d (.int b)), X, ?_, fin'⟩
      rw [ed] at ap
      unfold bNt
      simp -implicitDefEqProofs [qe', u1, hr4, lr, f1, gSl_lst, cut2, mgTL_lst, f2, sz3, ty, ap]
end
end K50
end
section
set_option maxRecDepth 100000
namespace K50
open PySem L2 MW
theorem five {α : Type} {w : Int} (h0 : 0 ≤ w) (h1 : w < 5) (a b c d e : α) (P : α → Prop) (ha : P a) (hb : P b) (hc : P c) (hd : P d) (he : P e) : ∃ x, atI [a, b, c, d, e] w = some x ∧ P x := by
  have : w = 0 ∨ w = 1 ∨ w = 2 ∨ w = 3 ∨ w = 4 := by omega
  rcases this with rfl | rfl | rfl | rfl | rfl
  · exact ⟨a, rfl, ha⟩
  · exact ⟨b, rfl, hb⟩
  · exact ⟨c, rfl, hc⟩
  · exact ⟨d, rfl, hd⟩
  · exact ⟨e, rfl, he⟩
def eMany : ME := (mBin gIx (mList .pure (mCons (mBin (gAdd .pure) (mC (.int 2)) (mCall m__law_take (mCons (mVar 0) (mCons (mC (.int 5)) mNil)))) (mCons (mC (.int 10)) (mCons (mBin (gAdd .pure) (mC (.int 7)) (mCall m__law_take (mCons (mVar 0) (mCons (mC (.int 4)) mNil)))) (mCons (mBin (gAdd .pure) (mC (.int 6)) (mCall m__law_take (mCons (mVar 0) (mCons (mC (.int 5)) mNil)))) (mCons (mBin (gAdd .pure) (mC (.int 3)) (mCall m__law_take (mCons (mVar 0) (mCons (mC (.int 3)) mNil)))) mNil)))))) (mVar 1))
def eCount : ME := (mBin gIx (mList .pure (mCons (mBin (gAdd .pure) (mC (.int 1)) (mCall m__law_take (mCons (mVar 0) (mCons (mC (.int 9)) mNil)))) (mCons (mBin (gAdd .pure) (mC (.int 1)) (mCall m__law_take (mCons (mVar 0) (mCons (mC (.int 3)) mNil)))) (mCons (mCall m__law_take (mCons (mVar 0) (mCons (mC (.int 3)) mNil))) (mCons (mBin (gAdd .pure) (mC (.int 8)) (mCall m__law_take (mCons (mVar 0) (mCons (mC (.int 5)) mNil)))) (mCons (mBin (gAdd .pure) (mC (.int 9)) (mCall m__law_take (mCons (mVar 0) (mCons (mC (.int 4)) mNil)))) mNil)))))) (mVar 1))
theorem eMany_ok {S : Sto} {n c : Nat} {w : Int} (hB : Bx S n c) (hc : c + 10 < 1000000) (h0 : 0 ≤ w) (h1 : w < 5) : ∃ (many : Nat) (o : Ob), (∀ r, eMany (some (.ref n) :: some (.d (.int w)) :: r) S = some (.d (.int many), S.set n o)) ∧ 2 ≤ many ∧ many ≤ 10 ∧ Bx (S.set n o) n (c + 4) := by
  obtain ⟨r1, o1, t1, a1, b1, k1⟩ := take_ok hB (by omega) (many := 5) (by decide) (by decide)
  obtain ⟨r2, o2, t2, a2, b2, k2⟩ := take_ok k1 (by omega) (many := 4) (by decide) (by decide)
  rw [set_set] at t2 k2
  obtain ⟨r3, o3, t3, a3, b3, k3⟩ := take_ok k2 (by omega) (many := 5) (by decide) (by decide)
  rw [set_set] at t3 k3
  obtain ⟨r4, o4, t4, a4, b4, k4⟩ := take_ok k3 (by omega) (many := 3) (by decide) (by decide)
  rw [set_set] at t4 k4
  obtain ⟨x, e, m, rfl, hm1, hm2⟩ := five h0 h1 (D.int (2 + r1)) (D.int 10) (D.int (7 + r2)) (D.int (6 + r3)) (D.int (3 + r4)) (fun x => ∃ m : Nat, x = D.int m ∧ 2 ≤ m ∧ m ≤ 10)
    ⟨(2 + r1).toNat, by congr 1; omega, by omega, by omega⟩ ⟨10, rfl, by omega, by omega⟩ ⟨(7 + r2).toNat, by congr 1; omega, by omega, by omega⟩ ⟨(6 + r3).toNat, by congr 1; omega, by omega, by omega⟩ ⟨(3 + r4).toNat, by congr 1; omega, by omega, by omega⟩
  have z5 : 5 ≤ sizeLine := by rw [sizeLine_eq]; decide
  refine ⟨m, o4, fun r => ?_, hm1, hm2, k4⟩
  simp -implicitDefEqProofs [eMany, t1, t2, t3, t4, z5, e]
theorem eCount_ok {S : Sto} {n c : Nat} {w : Int} (hB : Bx S n c) (hc : c + 10 < 1000000) (h0 : 0 ≤ w) (h1 : w < 5) : ∃ (k : Nat) (o : Ob), (∀ r, eCount (some (.ref n) :: some (.d (.int w)) :: r) S = some (.d (.int k), S.set n o)) ∧ k ≤ 20 ∧ Bx (S.set n o) n (c + 5) := by
  obtain ⟨r1, o1, t1, a1, b1, k1⟩ := take_ok hB (by omega) (many := 9) (by decide) (by decide)
  obtain ⟨r2, o2, t2, a2, b2, k2⟩ := take_ok k1 (by omega) (many := 3) (by decide) (by decide)
  rw [set_set] at t2 k2
  obtain ⟨r3, o3, t3, a3, b3, k3⟩ := take_ok k2 (by omega) (many := 3) (by decide) (by decide)
  rw [set_set] at t3 k3
  obtain ⟨r4, o4, t4, a4, b4, k4⟩ := take_ok k3 (by omega) (many := 5) (by decide) (by decide)
  rw [set_set] at t4 k4
  obtain ⟨r5, o5, t5, a5, b5, k5⟩ := take_ok k4 (by omega) (many := 4) (by decide) (by decide)
  rw [set_set] at t5 k5
  obtain ⟨x, e, m, rfl, hm1⟩ := five h0 h1 (D.int (1 + r1)) (D.int (1 + r2)) (D.int r3) (D.int (8 + r4)) (D.int (9 + r5)) (fun x => ∃ m : Nat, x = D.int m ∧ m ≤ 20)
    ⟨(1 + r1).toNat, by congr 1; omega, by omega⟩ ⟨(1 + r2).toNat, by congr 1; omega, by omega⟩ ⟨r3.toNat, by congr 1; omega, by omega⟩ ⟨(8 + r4).toNat, by congr 1; omega, by omega⟩ ⟨(9 + r5).toNat, by congr 1; omega, by omega⟩
  have z5 : 5 ≤ sizeLine := by rw [sizeLine_eq]; decide
  refine ⟨m, o5, fun r => ?_, hm1, k5⟩
  simp -implicitDefEqProofs [eCount, t1, t2, t3, t4, t5, z5, e]
end K50
end
section
set_option maxRecDepth 100000
namespace K50
open PySem L2 MW
section
variable {n m many : Nat} {S0 : Sto}
theorem nt_loop (h2 : 2 ≤ many) (hm : many ≤ 10) (v1 v5 v10 : Option W) (k : Wk) (hk : ∀ S, k.ok S = true) : ∀ (l : List D) (c : Nat) (S : Sto) (L : List Tie) (v4 v6 v7 v8 v9 : Option W), NS S0 n m many c S L → c + 100 + 20 * l.length < 1000000 → L.length + l.length ≤ 500 →
    ∃ L' w4 w6 w7 w8 w9 S', MW.forM k (mgName 4) bNt l [some (.ref n), v1, some (.d (.int many)), some (.ref m), v4, v5, v6, v7, v8, v9, v10] S = some (.nx [some (.ref n), v1, some (.d (.int many)), some (.ref m), w4, v5, w6, w7, w8, w9, v10] S') ∧ NS S0 n m many (c + 20 * l.length) S' L' ∧ L'.length = L.length + l.length
  | [], c, S, L, v4, v6, v7, v8, v9, h, _, _ => ⟨L, v4, v6, v7, v8, v9, S, by simp [MW.forM, hk], by simpa using h, rfl⟩
  | x :: l, c, S, L, v4, v6, v7, v8, v9, h, hc, hl => by
    simp only [List.length_cons] at hc hl
    obtain ⟨t, w6, w7, w8, w9, S1, q1, q2⟩ := nt_turn h h2 hm (by omega) (by omega) v1 (some (.d x)) v5 v6 v7 v8 v9 v10
    obtain ⟨L', u4, u6, u7, u8, u9, S', i1, i2, i3⟩ := nt_loop h2 hm v1 v5 v10 k hk l (c + 20) S1 (L ++ [t]) (some (.d x)) w6 w7 w8 w9 q2 (by omega) (by simp; omega)
    refine ⟨L', u4, u6, u7, u8, u9, S', ?_, ?_, by simp at i3 ⊢; omega⟩
    · unfold MW.forM
      rw [if_pos (hk _)]
      simp -implicitDefEqProofs [q1, i1]
    · have e : c + 20 * (x :: l).length = c + 20 + 20 * l.length := by simp only [List.length_cons]; omega
      rw [e]; exact i2
end
/-- names for places -/
def nmOf (ys : List Int) (a : Int) : Int := ys[a.toNat]?.getD 0
theorem nm_get {ys : List Int} {many : Nat} (h : ys.Perm ((List.range many).map fun i : Nat => (i : Int))) {a : Int} (a0 : 0 ≤ a) (a1 : a < many) (S : Sto) : gIx (.d (.lst (ys.map D.int))) (.d (.int a)) S = some (.d (.int (nmOf ys a)), S) ∧ 0 ≤ nmOf ys a ∧ nmOf ys a < many := by
  have hl := h.length_eq
  simp at hl
  obtain ⟨i, rfl⟩ : ∃ i : Nat, a = i := ⟨a.toNat, by omega⟩
  have hi : i < ys.length := by omega
  have e : nmOf ys (i : Int) = ys[i] := by
    unfold nmOf
    rw [Int.toNat_natCast, List.getElem?_eq_getElem hi]
    rfl
  rw [e]
  refine ⟨?_, below_of h (List.getElem_mem hi)⟩
  rw [gIx_lst, MW.atI_nat, List.getElem?_map, List.getElem?_eq_getElem hi]
  rfl
theorem nm_inj {ys : List Int} {many : Nat} (h : ys.Perm ((List.range many).map fun i : Nat => (i : Int))) {a b : Int} (a0 : 0 ≤ a) (a1 : a < many) (b0 : 0 ≤ b) (b1 : b < many) (e : nmOf ys a = nmOf ys b) : a = b := by
  have hl := h.length_eq
  simp at hl
  have nd : ys.Nodup := (List.Perm.nodup_iff h).mpr (List.Pairwise.map _ (fun a b h e => h (by exact_mod_cast e)) List.nodup_range)
  obtain ⟨i, rfl⟩ : ∃ i : Nat, a = i := ⟨a.toNat, by omega⟩
  obtain ⟨j, rfl⟩ : ∃ j : Nat, b = j := ⟨b.toNat, by omega⟩
  have hi : i < ys.length := by omega
  have hj : j < ys.length := by omega
  unfold nmOf at e
  rw [Int.toNat_natCast, Int.toNat_natCast, List.getElem?_eq_getElem hi, List.getElem?_eq_getElem hj] at e
  have e' : ys[i] = ys[j] := e
  rcases Nat.lt_trichotomy i j with q | q | q
  · exact absurd e' (List.pairwise_iff_getElem.mp nd i j hi hj q)
  · rw [q]
  · exact absurd e'.symm (List.pairwise_iff_getElem.mp nd j i hj hi q)
end K50
end
section
set_option maxRecDepth 100000
namespace K50
open PySem L2 MW
def eLine : ME := (mLc .pure (miRange1 (mCons (mBin (gInt iSub) (mVar 2) (mC (.int 1))) mNil)) (.nm 4) tYesM (mTup (mCons (mVar 4) (mCons (mBin (gAdd .pure) (mVar 4) (mC (.int 1))) (mCons (mCall m__law_sure (mCons (mVar 0) mNil)) mNil)))) [4])
theorem eLine_ok {S0 : Sto} {n c many : Nat} {o : Ob} (hB : Bx (S0.set n o) n c) (hc : c + 20 < 1000000) (hn : n < S0.length) (h2 : 2 ≤ many) (hm : many ≤ 10) (v1 v3 v4 v5 v6 v7 v8 v9 v10 : Option W) :
    ∃ (L : List Tie) (o' : Ob), eLine [some (.ref n), v1, some (.d (.int many)), v3, v4, v5, v6, v7, v8, v9, v10] (S0.set n o ++ [.lst []]) = some (.d (.lst (L.map Tie.d)), S0.set n o' ++ [.lst []]) ∧ Bx (S0.set n o') n (c + 10) ∧ (∀ t ∈ L, GoodT many t) ∧ L.length ≤ 9 := by
  have hr : ((many : Int) - 1) < 4611686018427387904 := by omega
  have e : ((many : Int) - 1).toNat = many - 1 := by omega
  have st := mLc_st (mk := .pure) (fi := miRange1 (mCons (mBin (gInt iSub) (mVar 2) (mC (.int 1))) mNil)) (t := .nm 4) (e := mTup (mCons (mVar 4) (mCons (mBin (gAdd .pure) (mVar 4) (mC (.int 1))) (mCons (mCall m__law_sure (mCons (mVar 0) mNil)) mNil)))) (vs := [4])
    (env := [some (.ref n), v1, some (.d (.int many)), v3, v4, v5, v6, v7, v8, v9, v10]) (S := S0.set n o ++ [.lst []]) (S1 := S0.set n o ++ [.lst []]) (k := ⟨upFrom 0 (many - 1), none⟩) rfl (by simp -implicitDefEqProofs [miRange1, hr, e]; try omega)
    (fun acc rest S' => ∃ (L : List Tie) (o' : Ob), acc = L.map Tie.d ∧ S' = S0.set n o' ++ [.lst []] ∧ Bx (S0.set n o') n (c + L.length) ∧ (∀ t ∈ L, GoodT many t) ∧ L.length + rest.length = many - 1 ∧ ∀ x ∈ rest, ∃ i : Int, x = .int i ∧ 0 ≤ i ∧ i + 1 < many)
    (fun _ _ _ _ => rfl) (fun x r acc S' hI => ?_) ⟨[], o, rfl, rfl, by simpa using hB, (fun t h => by cases h), by simp [upFrom_length], fun x hx => by
      obtain ⟨i, hi, rfl⟩ := upFrom_mem hx
      exact ⟨_, rfl, by omega, by omega⟩⟩
  · obtain ⟨ys, S', q, L, o', rfl, rfl, q3, q4, q5, _⟩ := st
    refine ⟨L, o', q, q3.mono (by simp at q5; omega), q4, by simp at q5; omega⟩
  · obtain ⟨L, o', rfl, rfl, q3, q4, q5, q6⟩ := hI
    obtain ⟨i, rfl, i0, i1⟩ := q6 x List.mem_cons_self
    simp only [List.length_cons] at q5
    refine ⟨by rw [sizeLine_eq]; simp; omega, ?_⟩
    obtain ⟨q, o2, w1, w2, w3⟩ := sure_ok (q3.app (T := [.lst []])) (by omega)
    have hln : n < (S0.set n o').length := by simpa using hn
    rw [set_app _ _ _ hln, set_set] at w1 w3
    have ht : GoodT many ⟨i, i + 1, q⟩ := ⟨i0, by show i < _; omega, by show 0 ≤ i + 1; omega, i1, by show i ≠ i + 1; omega, w2⟩
    refine ⟨[some (.ref n), v1, some (.d (.int many)), v3, some (.d (.int i)), v5, v6, v7, v8, v9, v10], (⟨i, i + 1, q⟩ : Tie).d, S0.set n o2 ++ [.lst []], rfl, ?_, L ++ [⟨i, i + 1, q⟩], o2, by simp, rfl, ?_, ?_, by simp; omega, fun y hy => q6 y (List.mem_cons_of_mem _ hy)⟩
    · have ed : (⟨i, i + 1, q⟩ : Tie).d = .tup [.int i, .int (i + 1), fr q] := rfl
      rw [ed]
      simp -implicitDefEqProofs [w1, sz3]
    · have := w3.of_app (by simpa using hn)
      exact this.mono (by simp; omega)
    · intro t h
      rcases List.mem_append.mp h with z | z
      · exact q4 t z
      · rw [List.mem_singleton.mp z]; exact ht
end K50
end
section
set_option maxRecDepth 100000
namespace K50
open PySem L2 MW
def bWays : MS := (sIf (mTest (mBin (gIn false) (mVar 1) (mTup (mCons (mC (.int 1)) (mCons (mC (.int 2)) mNil))))) (sAsg (mBin (gAdd .own) eLine (mIf (mTest (mBin (gEq) (mVar 1) (mC (.int 2)))) (mList .pure (mCons (mTup (mCons (mBin (gInt iSub) (mVar 2) (mC (.int 1))) (mCons (mC (.int 0)) (mCons (mCall m__law_sure (mCons (mVar 0) mNil)) mNil)))) mNil)) (mList .pure mNil))) (mgName 3)) sNil)
theorem gIn12 (w : Int) (S : Sto) : gIn false (.d (.int w)) (.d (.tup [.int 1, .int 2])) S = some (.d (.bl (decide (w ∈ [(1 : Int), 2]))), S) := gIn_tup false w [1, 2] S
theorem ways_ok {S0 : Sto} {n c many : Nat} {o : Ob} {w : Int} (hB : Bx (S0.set n o) n c) (hc : c + 30 < 1000000) (hn : n < S0.length) (h2 : 2 ≤ many) (hm : many ≤ 10) (v4 v5 v6 v7 v8 v9 v10 : Option W) :
    ∃ (L : List Tie) (m : Nat) (S' : Sto), bWays [some (.ref n), some (.d (.int w)), some (.d (.int many)), some (.ref S0.length), v4, v5, v6, v7, v8, v9, v10] (S0.set n o ++ [.lst []]) =
      some (.nx [some (.ref n), some (.d (.int w)), some (.d (.int many)), some (.ref m), v4, v5, v6, v7, v8, v9, v10] S') ∧ NS S0 n m many (c + 20) S' L ∧ L.length ≤ 10 := by
  have z1 : 1 ≤ sizeLine := by rw [sizeLine_eq]; decide
  have z0 : 0 ≤ sizeLine := Nat.zero_le _
  have mk : ∀ (o' : Ob) (X : List D) (L : List Tie) (c' : Nat), Bx (S0.set n o') n c' → c' ≤ c + 20 → (∀ t ∈ L, GoodT many t) → NS S0 n (S0.length + 1) many (c + 20) (S0.set n o' ++ [.lst X] ++ [.lst (L.map Tie.d)]) L := fun o' X L c' hb hle hg => by
    have hls : (S0.set n o').length = S0.length := List.length_set
    refine ⟨((hb.app (T := [.lst X])).app (T := [.lst (L.map Tie.d)])).mono hle, ?_, by omega, hg, ⟨o', ?_⟩, hn, by omega⟩
    · rw [List.getElem?_append_right (by simp)]
      simp
    · rw [List.append_assoc, List.take_append_of_le_length (by omega), ← hls, List.take_length]
  by_cases hw : w = 1 ∨ w = 2
  · obtain ⟨L, o', q1, q2, q3, q4⟩ := eLine_ok hB (by omega) hn h2 hm (some (.d (.int w))) (some (.ref S0.length)) v4 v5 v6 v7 v8 v9 v10
    have hin : (decide (w ∈ [(1 : Int), 2])) = true := by simpa using hw
    have gi := gIn12 w (S0.set n o ++ [.lst []])
    rw [hin] at gi
    have hLs : L.length + 1 ≤ sizeLine := by rw [sizeLine_eq]; omega
    have hLs0 : L.length ≤ sizeLine := by rw [sizeLine_eq]; omega
    by_cases hw2 : w = 2
    · subst hw2
      obtain ⟨q, o2, w1, w2, w3⟩ := sure_ok (q2.app (T := [.lst []])) (by omega)
      have hln : n < (S0.set n o').length := by simpa using hn
      rw [set_app _ _ _ hln, set_set] at w1 w3
      have w3' := w3.of_app (by simpa using hn)
      have ht : GoodT many ⟨many - 1, 0, q⟩ := ⟨by show (0 : Int) ≤ many - 1; omega, by show (many : Int) - 1 < many; omega, by show (0 : Int) ≤ 0; omega, by show (0 : Int) < many; omega, by show (many : Int) - 1 ≠ 0; omega, w2⟩
      have hns := mk o2 [] (L ++ [⟨many - 1, 0, q⟩]) _ w3' (by omega) (fun t h => by
        rcases List.mem_append.mp h with z | z
        · exact q3 t z
        · rw [List.mem_singleton.mp z]; exact ht)
      refine ⟨L ++ [⟨many - 1, 0, q⟩], S0.length + 1, _, ?_, hns, by simp; omega⟩
      have em : (L ++ [(⟨many - 1, 0, q⟩ : Tie)]).map Tie.d = L.map Tie.d ++ [.tup [.int (many - 1), .int 0, fr q]] := by simp [Tie.d]
      rw [em]
      simp -implicitDefEqProofs [bWays, sz2, gi, q1, w1, sz3, z1, hLs]
    · have hns := mk o' [] L _ q2 (by omega) q3
      refine ⟨L, S0.length + 1, _, ?_, hns, by omega⟩
      simp -implicitDefEqProofs [bWays, sz2, gi, q1, hw2, z0, hLs0]
  · have hin : (decide (w ∈ [(1 : Int), 2])) = false := by simpa using hw
    have gi := gIn12 w (S0.set n o ++ [.lst []])
    rw [hin] at gi
    have hls : (S0.set n o).length = S0.length := List.length_set
    refine ⟨[], S0.length, S0.set n o ++ [.lst []], ?_, ⟨(hB.app (T := [.lst []])).mono (by omega), by rw [List.getElem?_append_right (by simp)]; simp, by omega, (fun t h => by cases h), ⟨o, by rw [List.take_append_of_le_length (by omega), ← hls, List.take_length]⟩, hn, Nat.le_refl _⟩, by simp⟩
    simp -implicitDefEqProofs [bWays, sz2, gi]
end K50
end
section
set_option maxRecDepth 100000
namespace K50
open PySem L2 MW
theorem law_net_is : b__law_net = (sSeq (sAsg eMany (mgName 2))
  (sSeq (sAsg (mList .own mNil) (mgName 3))
  (sSeq bWays
  (sSeq (sFor (miRange1 (mCons eCount mNil)) (mgName 4) bNt)
  (sSeq (sAsg (mCall m__law_mixed (mCons (mVar 0) (mCons (mLstRg1 .pure (mVar 2)) mNil))) (mgName 5))
  (sRet (mTup (mCons (mVar 2) (mCons (mLc .pure (miSeq (mSl .pure (mVar 3) mNo (mSo (mC (.int 12))))) (.tp [8, 9, 10]) tYesM (mTup (mCons (mBin gIx (mVar 5) (mVar 8)) (mCons (mBin gIx (mVar 5) (mVar 9)) (mCons (mVar 10) mNil)))) [8, 9, 10]) (mCons (mVar 5) mNil)))))))))) := rfl
theorem nm_at {ys : List Int} {many : Nat} (h : ys.Perm ((List.range many).map fun i : Nat => (i : Int))) {a : Int} (a0 : 0 ≤ a) (a1 : a < many) : atI (ys.map D.int) a = some (.int (nmOf ys a)) := by
  have hl := h.length_eq
  simp at hl
  obtain ⟨i, rfl⟩ : ∃ i : Nat, a = i := ⟨a.toNat, by omega⟩
  have hi : i < ys.length := by omega
  unfold nmOf
  rw [MW.atI_nat, List.getElem?_map, Int.toNat_natCast, List.getElem?_eq_getElem hi]
  rfl
theorem cut12 (xs : List D) : cutD xs none (some 12) = xs.take 12 := cut_to xs 12
theorem lcRen {ys : List Int} {many : Nat} (h : ys.Perm ((List.range many).map fun i : Nat => (i : Int))) (T : List Tie) (ht : ∀ t ∈ T, GoodT many t) {m : Nat} {S : Sto} (hm : S[m]? = some (.lst (T.map Tie.d))) (v0 v1 v2 v4 v6 v7 v8 v9 v10 : Option W) :
    mLc .pure (miSeq (mSl .pure (mVar 3) mNo (mSo (mC (.int 12))))) (.tp [8, 9, 10]) tYesM (mTup (mCons (mBin gIx (mVar 5) (mVar 8)) (mCons (mBin gIx (mVar 5) (mVar 9)) (mCons (mVar 10) mNil)))) [8, 9, 10] [v0, v1, v2, some (.ref m), v4, some (.d (.lst (ys.map D.int))), v6, v7, v8, v9, v10] S =
      some (.d (.lst (((T.take 12).map (Tie.ren (nmOf ys))).map Tie.d)), S) := by
  have e : (((T.take 12).map Tie.d).filter fun _ => true).map (fun x => ((Tie.of x).ren (nmOf ys)).d) = ((T.take 12).map (Tie.ren (nmOf ys))).map Tie.d := by
    rw [List.filter_eq_self.mpr fun _ _ => rfl, List.map_map, List.map_map]
    refine List.map_congr_left fun t _ => ?_
    show ((Tie.of t.d).ren (nmOf ys)).d = (t.ren (nmOf ys)).d
    rw [Tie.of_d]
  rw [← e]
  refine mLc_d rfl (miSeq_lst (xs := (T.take 12).map Tie.d) ?_) _ _ ?_ (by simp; omega)
  · have := gSl_ref hm .pure none (some 12)
    rw [cut12, ← List.map_take] at this
    generalize (T.take 12).map Tie.d = Y at *
    simp -implicitDefEqProofs [this]
  · intro x hx
    obtain ⟨t, htm, rfl⟩ := List.mem_map.mp hx
    have g := ht t (List.mem_of_mem_take htm)
    refine ⟨[v0, v1, v2, some (.ref m), v4, some (.d (.lst (ys.map D.int))), v6, v7, some (.d (.int t.a)), some (.d (.int t.b)), some (.d (fr t.c))], rfl, rfl, fun _ => ?_⟩
    rw [Tie.of_d]
    have et : (t.ren (nmOf ys)).d = .tup [.int (nmOf ys t.a), .int (nmOf ys t.b), fr t.c] := rfl
    rw [et]
    have ga := nm_at h g.a0 g.a1
    have gb := nm_at h g.b0 g.b1
    generalize ys.map D.int = yd at *
    simp -implicitDefEqProofs [sz3, ga, gb]
theorem renGood {ys : List Int} {many : Nat} (h : ys.Perm ((List.range many).map fun i : Nat => (i : Int))) {t : Tie} (g : GoodT many t) : GoodT many (t.ren (nmOf ys)) := by
  have ga := (nm_get h g.a0 g.a1 []).2
  have gb := (nm_get h g.b0 g.b1 []).2
  exact ⟨ga.1, ga.2, gb.1, gb.2, fun e => g.ne (nm_inj h g.a0 g.a1 g.b0 g.b1 e), g.gc⟩
theorem law_net_ok {S : Sto} {n c : Nat} {w : Int} (hB : Bx S n c) (hc : c + 2000 < 1000000) (h0 : 0 ≤ w) (h1 : w < 5) :
    ∃ (many : Nat) (T : List Tie) (ys : List Int) (o : Ob), m__law_net [.ref n, .d (.int w)] S = some (.d (.tup [.int many, .lst (T.map Tie.d), .lst (ys.map D.int)]), S.set n o) ∧ 2 ≤ many ∧ many ≤ 10 ∧ T.length ≤ 12 ∧ (∀ t ∈ T, GoodT many t) ∧ Bx (S.set n o) n (c + 1000) := by
  have hn := hB.lt
  obtain ⟨many, o1, e1, m2, m10, k1⟩ := eMany_ok hB (by omega) h0 h1
  obtain ⟨L2, m, S2, e2, k2, l2⟩ := ways_ok (w := w) k1 (by omega) hn m2 m10 none none none none none none none
  obtain ⟨cnt, o3, e3, c3, k3⟩ := eCount_ok k2.bx (by omega) h0 h1
  have n3 := k2.setN k3
  have hul : (upFrom 0 cnt).length = cnt := upFrom_length ..
  obtain ⟨L4, w4, w6, w7, w8, w9, S4, e4, k4, l4⟩ := nt_loop m2 m10 (some (.d (.int w))) none none ⟨upFrom 0 cnt, none⟩ (fun _ => rfl) (upFrom 0 cnt) _ _ _ none none none none none n3 (by omega) (by omega)
  rw [hul] at k4 l4
  obtain ⟨ys, o5, p1, p2, p3⟩ := some_ok k4.bx (by omega) (many := many) (by omega)
  have n5 := k4.setN p3
  obtain ⟨o, eo⟩ := n5.tk
  have fin' : (S4.set n o5).take S.length = S.set n o := eo
  have lc := lcRen p2 L4 n5.ok n5.tl (some (.ref n)) (some (.d (.int w))) (some (.d (.int many))) w4 w6 w7 w8 w9 none
  have hBo : Bx (S.set n o) n (c + 1000) := by
    have b := n5.bx.mono (d := c + 1000) (by omega)
    obtain ⟨b0, fl, sd, c', q1, q2⟩ := b
    refine ⟨b0, fl, sd, c', ?_, q2⟩
    rw [← fin', List.getElem?_take, if_pos hn]
    exact q1
  refine ⟨many, (L4.take 12).map (Tie.ren (nmOf ys)), ys, o, ?_, m2, m10, by simp; omega, fun t h => ?_, hBo⟩
  · have lr : mLstRg1 .pure (mVar 2) [some (.ref n), some (.d (.int w)), some (.d (.int many)), some (.ref m), w4, none, w6, w7, w8, w9, none] S4 = some (.d (.lst (upFrom 0 many)), S4) := lstRg (by omega) rfl
    have hr : (cnt : Int) < 4611686018427387904 := by omega
    have mi : ∀ r, miRange1 (mCons eCount mNil) (some (.ref n) :: some (.d (.int w)) :: r) S2 = some (⟨upFrom 0 cnt, none⟩, S2.set n o3) := fun r => by
      have := e3 r
      simp -implicitDefEqProofs [miRange1, this, hr]
    have bE := e2
    generalize ((L4.take 12).map (Tie.ren (nmOf ys))).map Tie.d = Td at *
    generalize ys.map D.int = yd at *
    have hs : (S.set n o1).length = S.length := List.length_set
    simp -implicitDefEqProofs [m__law_net, runDef, law_net_is, startE, e1, newL, hs, bE, mi, e4, lr, p1, lc, sz3, fin, fin']
  · obtain ⟨t', h', rfl⟩ := List.mem_map.mp h
    exact renGood p2 (n5.ok _ (List.mem_of_mem_take h'))
end K50
end
section
set_option maxRecDepth 100000
namespace K50
open PySem L2 MW
/-! rows and rings -/
section
variable {cs : List Rat}
noncomputable def cf (cs : List Rat) (i : Nat) : Rat := cs[i]?.getD 0
noncomputable def pp (c : Nat → Rat) (k : Nat) : Rat := prodR ((List.range k).map c)
theorem pp_succ (c : Nat → Rat) (k : Nat) : pp c (k + 1) = pp c k * c k := by
  unfold pp
  rw [List.range_succ, List.map_append, prodR_append]
  simp [prodR]
noncomputable def wp (q : Nat → Bool) (c : Nat → Rat) (k : Nat) : Rat := prodR (((List.range k).filter q).map c)
theorem wp_succ (q : Nat → Bool) (c : Nat → Rat) (k : Nat) : wp q c (k + 1) = if q k = true then wp q c k * c k else wp q c k := by
  unfold wp
  rw [List.range_succ, List.filter_append, List.map_append, prodR_append]
  by_cases h : q k = true
  · simp [h, prodR]
  · simp [h, prodR]
theorem GoodC.sz {c : Rat} (g : GoodC c) : Sz c 4 := (Part.self c).sz c.den_nz (by have := g.cd; omega) g.c0 g.c1
theorem one_sz : Sz 1 1 := ⟨by decide, by decide⟩
theorem pp_sz {c : Nat → Rat} {N : Nat} (h : ∀ i, i < N → GoodC (c i)) : ∀ k, k ≤ N → Sz (pp c k) (4 * k + 1)
  | 0, _ => one_sz
  | k + 1, hk => by
    rw [pp_succ]
    exact ((pp_sz h k (by omega)).mul (h k (by omega)).sz).mono (by omega)
theorem wp_sz {q : Nat → Bool} {c : Nat → Rat} {N : Nat} (h : ∀ i, i < N → GoodC (c i)) : ∀ k, k ≤ N → Sz (wp q c k) (4 * k + 1)
  | 0, _ => one_sz
  | k + 1, hk => by
    rw [wp_succ]
    have ih := wp_sz h (q := q) k (by omega)
    split
    · exact (ih.mul (h k (by omega)).sz).mono (by omega)
    · exact ih.mono (by omega)
theorem cf_get {k : Nat} (hl : k < cs.length) : atI (cs.map fr) (k : Int) = some (fr (cf cs k)) := by
  rw [MW.atI_nat, List.getElem?_map]
  unfold cf
  rw [List.getElem?_eq_getElem hl]
  rfl
theorem cf_good (h : ∀ c ∈ cs, GoodC c) {k : Nat} (hl : k < cs.length) : GoodC (cf cs k) := by
  unfold cf
  rw [List.getElem?_eq_getElem hl]
  exact h _ (List.getElem_mem hl)
end
section
variable {ys : List Int} {N : Nat}
/-- all places have a name, each place is one's name -/
theorem nm_all (h : ys.Perm ((List.range N).map fun i : Nat => (i : Int))) (R : Int → Prop) : AllR N R ↔ ∀ i : Nat, i < N → R (nmOf ys i) := by
  constructor
  · intro k i hi
    have := (nm_get h (a := (i : Int)) (by omega) (by omega) []).2
    exact k _ this.1 this.2
  · intro k x x0 x1
    have hl := h.length_eq
    simp at hl
    have hx : x ∈ ys := h.mem_iff.mpr (List.mem_map.mpr ⟨x.toNat, List.mem_range.mpr (by omega), by omega⟩)
    obtain ⟨i, hi, e⟩ := List.mem_iff_getElem.mp hx
    have := k i (by omega)
    have e2 : nmOf ys (i : Int) = x := by
      unfold nmOf
      rw [Int.toNat_natCast, List.getElem?_eq_getElem hi]
      exact e
    rw [e2] at this
    exact this
theorem nm_injN (h : ys.Perm ((List.range N).map fun i : Nat => (i : Int))) : ∀ i j : Nat, i < N → j < N → nmOf ys (i : Int) = nmOf ys (j : Int) → i = j := fun i j hi hj e => by
  have := nm_inj h (a := (i : Int)) (b := (j : Int)) (by omega) (by omega) (by omega) (by omega) e
  omega
/-- the i-th tie -/
noncomputable def lnT (ys : List Int) (cs : List Rat) (N : Nat) (i : Nat) : Tie := rt N (fun i : Nat => nmOf ys (i : Int)) (cf cs) i
theorem lnT_good (h : ys.Perm ((List.range N).map fun i : Nat => (i : Int))) (hN : 2 ≤ N) (hl : cs.length = N) (hc : ∀ c ∈ cs, GoodC c) {i : Nat} (hi : i < N) : GoodT N (lnT ys cs N i) := by
  have a := (nm_get h (a := (i : Int)) (by omega) (by omega) []).2
  have hm : (i + 1) % N < N := Nat.mod_lt _ (by omega)
  have b := (nm_get h (a := (((i + 1) % N : Nat) : Int)) (by omega) (by omega) []).2
  refine ⟨a.1, a.2, b.1, b.2, fun e => ?_, cf_good hc (by omega)⟩
  have := nm_injN h i ((i + 1) % N) hi hm e
  rcases Nat.lt_or_ge (i + 1) N with q | q
  · rw [Nat.mod_eq_of_lt q] at this
    omega
  · have e1 : i + 1 = N := by omega
    rw [e1, Nat.mod_self] at this
    omega
theorem lnT_net (h : ys.Perm ((List.range N).map fun i : Nat => (i : Int))) (hN : 2 ≤ N) (h10 : N ≤ 10) (hl : cs.length = N) (hc : ∀ c ∈ cs, GoodC c) {M : Nat} (hM : M ≤ N) {Ts : List Tie} (hp : Ts.Perm ((List.range M).map (lnT ys cs N))) (hs : (Ts.map Tie.d).Pairwise fun x y => D.lt y x = false) : Net N Ts :=
  ⟨by omega, h10, by rw [hp.length_eq]; simp; omega, fun t ht => by
    obtain ⟨i, hi, rfl⟩ := List.mem_map.mp (hp.mem_iff.mp ht)
    exact (lnT_good h hN hl hc (by have := List.mem_range.mp hi; omega)).ok.1, hs⟩
end
end K50
end
section
set_option maxRecDepth 100000
namespace K50
open PySem L2 MW
def bL1 : MS := (sSeq (sAsg (mCall m__law_mul (mCons (mVar 6) (mCons (mBin gIx (mVar 9) (mVar 5)) mNil))) (mgName 6))
  (sSeq (sAsg (mList .pure (mCons (mVar 6) (mCons (mVar 6) (mCons (mTup (mCons (mC (.int 0)) (mCons (mC (.int 1)) mNil))) mNil)))) (mgName 12))
  (sSeq (sAsg (mList .pure (mCons (mCall m__law_pair (mCons (mVar 3) (mCons (mBin gIx (mVar 10) (mC (.int 0))) (mCons (mBin gIx (mVar 10) (mBin (gAdd .pure) (mVar 5) (mC (.int 1)))) (mCons (mVar 1) mNil))))) (mCons (mCall m__law_pair (mCons (mVar 4) (mCons (mBin gIx (mVar 10) (mC (.int 0))) (mCons (mBin gIx (mVar 10) (mBin (gAdd .pure) (mVar 5) (mC (.int 1)))) (mCons (mNotV (mVar 1)) mNil))))) (mCons (mCall m__law_pair (mCons (mVar 3) (mCons (mBin gIx (mVar 10) (mBin (gAdd .pure) (mVar 5) (mC (.int 1)))) (mCons (mBin gIx (mVar 10) (mC (.int 0))) (mCons (mVar 1) mNil))))) mNil)))) (mgName 7))
  (sIf (mNot (mTest (mCall (m__law_same 5) (mCons (mVar 7) (mCons (mVar 12) mNil))))) (sRet (mC (.bl false))) sNil))))
def bL2 : MS := (sAsg (mIf (mTest (mBin (gNe) (mBin (gInt iMod) (mCall gToInt (mCons (mBin (gAdd .pure) (mVar 5) (mC (.int 1))) mNil)) (mVar 2)) (mVar 11))) (mCall m__law_mul (mCons (mVar 6) (mCons (mBin gIx (mVar 9) (mVar 5)) mNil))) (mVar 6)) (mgName 6))
def bL3 : MS := (sAsg (mCall m__law_mul (mCons (mVar 8) (mCons (mBin gIx (mVar 9) (mVar 5)) mNil))) (mgName 8))
def lcRow : ME := (mLc .pure (miRange1 (mCons (mBin (gInt iSub) (mVar 2) (mC (.int 1))) mNil)) (.nm 5) tYesM (mTup (mCons (mBin gIx (mVar 10) (mVar 5)) (mCons (mBin gIx (mVar 10) (mBin (gAdd .pure) (mVar 5) (mC (.int 1)))) (mCons (mBin gIx (mVar 9) (mVar 5)) mNil)))) [5])
def lcRing : ME := (mLc .pure (miRange1 (mCons (mVar 2) mNil)) (.nm 5) tYesM (mTup (mCons (mBin gIx (mVar 10) (mVar 5)) (mCons (mBin gIx (mVar 10) (mBin (gInt iMod) (mCall gToInt (mCons (mBin (gAdd .pure) (mVar 5) (mC (.int 1))) mNil)) (mVar 2))) (mCons (mBin gIx (mVar 9) (mVar 5)) mNil)))) [5])
def lcSure : ME := (mLc .pure (miRange1 (mCons (mVar 2) mNil)) (.nm 5) tYesM (mCall m__law_sure (mCons (mVar 0) mNil)) [5])
theorem line_right_is : b__law_line_right = (sSeq (sAsg (mBin (gAdd .pure) (mC (.int 3)) (mCall m__law_take (mCons (mVar 0) (mCons (mC (.int 8)) mNil)))) (mgName 2))
  (sSeq (sAsg (mTup (mCons lcSure (mCons (mCall m__law_mixed (mCons (mVar 0) (mCons (mLstRg1 .pure (mVar 2)) mNil))) mNil))) (mgTup 2 (mgCons (mgName 9) (mgCons (mgName 10) mgNil))))
  (sSeq (sAsg (mTup (mCons (mVar 2) (mCons (mCall gTupOf (mCons (mCall (gSorted .pure) (mCons lcRow mNil)) mNil)) mNil))) (mgName 3))
  (sSeq (sAsg (mTup (mCons (mVar 2) (mCons (mCall gTupOf (mCons (mCall (gSorted .pure) (mCons lcRing mNil)) mNil)) mNil))) (mgName 4))
  (sSeq (sPar 11 6 (mCons (mCall m__law_take (mCons (mVar 0) (mCons (mVar 2) mNil))) (mCons (mTup (mCons (mC (.int 1)) (mCons (mC (.int 1)) mNil))) mNil)))
  (sSeq (sFor (miRange1 (mCons (mBin (gInt iSub) (mVar 2) (mC (.int 1))) mNil)) (mgName 5) bL1)
  (sSeq (sAsg (mTup (mCons (mC (.int 1)) (mCons (mC (.int 1)) mNil))) (mgName 6))
  (sSeq (sFor (miRange1 (mCons (mVar 2) mNil)) (mgName 5) bL2)
  (sSeq (sAsg (mList .pure (mCons (mIf (mTest (mVar 1)) (mCall m_reach_all (mCons (mVar 4) (mCons (mBin gIx (mVar 10) (mVar 11)) mNil))) (mCallK m_reach_all [1, 0] 0 2 mNil (mCons (mBin gIx (mVar 10) (mVar 11)) (mCons (mVar 4) mNil)))) (mCons (mCall m_reach_all (mCons (mVar 3) (mCons (mBin gIx (mVar 10) (mC (.int 0))) mNil))) mNil))) (mgName 7))
  (sSeq (sAsg (mTup (mCons (mC (.int 1)) (mCons (mC (.int 1)) mNil))) (mgName 8))
  (sSeq (sFor (miRange1 (mCons (mBin (gInt iSub) (mVar 2) (mC (.int 1))) mNil)) (mgName 5) bL3)
  (sRet (mCall (m__law_same 5) (mCons (mVar 7) (mCons (mList .pure (mCons (mVar 6) (mCons (mVar 8) mNil))) mNil))))))))))))))) := rfl
section
variable {ys : List Int} {cs : List Rat} {N : Nat}
theorem modN {i N : Nat} (h : 0 < N) : iMod ((i : Int) + 1) N = some (.int (((i + 1) % N : Nat) : Int)) := by
  have hp : (0 : Int) < N := by omega
  rw [iMod_pos hp]
  rfl
theorem lcSure_ok {S0 : Sto} {n c : Nat} {o : Ob} (hB : Bx (S0.set n o) n c) (hc : c + 20 < 1000000) (hn : n < S0.length) (h10 : N ≤ 10) (v1 v3 v4 v5 v6 v7 v8 v9 v10 v11 v12 : Option W) :
    ∃ (cs : List Rat) (o' : Ob), lcSure [some (.ref n), v1, some (.d (.int N)), v3, v4, v5, v6, v7, v8, v9, v10, v11, v12] (S0.set n o) = some (.d (.lst (cs.map fr)), S0.set n o') ∧ Bx (S0.set n o') n (c + 10) ∧ (∀ t ∈ cs, GoodC t) ∧ cs.length = N := by
  have hr : (N : Int) < 4611686018427387904 := by omega
  have st := mLc_st (mk := .pure) (fi := miRange1 (mCons (mVar 2) mNil)) (t := .nm 5) (e := (mCall m__law_sure (mCons (mVar 0) mNil))) (vs := [5])
    (env := [some (.ref n), v1, some (.d (.int N)), v3, v4, v5, v6, v7, v8, v9, v10, v11, v12]) (S := S0.set n o) (S1 := S0.set n o) (k := ⟨upFrom 0 N, none⟩) rfl (by simp -implicitDefEqProofs [miRange1, hr])
    (fun acc rest S' => ∃ (L : List Rat) (o' : Ob), acc = L.map fr ∧ S' = S0.set n o' ∧ Bx (S0.set n o') n (c + L.length) ∧ (∀ t ∈ L, GoodC t) ∧ L.length + rest.length = N ∧ ∀ x ∈ rest, ∃ i : Int, x = .int i)
    (fun _ _ _ _ => rfl) (fun x r acc S' hI => ?_) ⟨[], o, rfl, rfl, by simpa using hB, (fun t h => by cases h), by simp [upFrom_length], fun x hx => by
      obtain ⟨i, hi, rfl⟩ := upFrom_mem hx
      exact ⟨_, rfl⟩⟩
  · obtain ⟨ys, S', q, L, o', rfl, rfl, q3, q4, q5, _⟩ := st
    exact ⟨L, o', q, q3.mono (by simp at q5; omega), q4, by simpa using q5⟩
  · obtain ⟨L, o', rfl, rfl, q3, q4, q5, q6⟩ := hI
    obtain ⟨i, rfl⟩ := q6 x List.mem_cons_self
    simp only [List.length_cons] at q5
    refine ⟨by rw [sizeLine_eq]; simp; omega, ?_⟩
    obtain ⟨q, o2, w1, w2, w3⟩ := sure_ok q3 (by omega)
    rw [set_set] at w1 w3
    refine ⟨[some (.ref n), v1, some (.d (.int N)), v3, v4, some (.d (.int i)), v6, v7, v8, v9, v10, v11, v12], fr q, S0.set n o2, rfl, ?_, L ++ [q], o2, by simp, rfl, w3.mono (by simp; omega), ?_, by simp; omega, fun y hy => q6 y (List.mem_cons_of_mem _ hy)⟩
    · simp -implicitDefEqProofs [w1]
    · intro t h
      rcases List.mem_append.mp h with z | z
      · exact q4 t z
      · rw [List.mem_singleton.mp z]; exact w2
theorem lcRow_ok (h : ys.Perm ((List.range N).map fun i : Nat => (i : Int))) (hN : 2 ≤ N) (h10 : N ≤ 10) (hl : cs.length = N) (v0 v1 v3 v4 v5 v6 v7 v8 v11 v12 : Option W) (S : Sto) :
    lcRow [v0, v1, some (.d (.int N)), v3, v4, v5, v6, v7, v8, some (.d (.lst (cs.map fr))), some (.d (.lst (ys.map D.int))), v11, v12] S = some (.d (.lst (((List.range (N - 1)).map (lnT ys cs N)).map Tie.d)), S) := by
  have hr : ((N : Int) - 1) < 4611686018427387904 := by omega
  have e : ((N : Int) - 1).toNat = N - 1 := by omega
  rw [List.map_map]
  refine mLc_R (N := N - 1) _ rfl (by simp -implicitDefEqProofs [miRange1, hr, e]; try omega) (fun i hi => ?_) (by omega)
  refine ⟨[v0, v1, some (.d (.int N)), v3, v4, some (.d (.int i)), v6, v7, v8, some (.d (.lst (cs.map fr))), some (.d (.lst (ys.map D.int))), v11, v12], rfl, ?_⟩
  have et : (Tie.d ∘ lnT ys cs N) i = .tup [.int (nmOf ys i), .int (nmOf ys ((i : Int) + 1)), fr (cf cs i)] := by
    show D.tup [.int (nmOf ys i), .int (nmOf ys (((i + 1) % N : Nat) : Int)), fr (cf cs i)] = _
    rw [Nat.mod_eq_of_lt (by omega)]
    rfl
  rw [et]
  have ga := nm_at h (a := (i : Int)) (by omega) (by omega)
  have gb := nm_at h (a := (i : Int) + 1) (by omega) (by omega)
  have gc := cf_get (cs := cs) (k := i) (by omega)
  generalize ys.map D.int = yd at *
  generalize cs.map fr = cd at *
  simp -implicitDefEqProofs [sz3, ga, gb, gc]
theorem lcRing_ok (h : ys.Perm ((List.range N).map fun i : Nat => (i : Int))) (hN : 2 ≤ N) (h10 : N ≤ 10) (hl : cs.length = N) (v0 v1 v3 v4 v5 v6 v7 v8 v11 v12 : Option W) (S : Sto) :
    lcRing [v0, v1, some (.d (.int N)), v3, v4, v5, v6, v7, v8, some (.d (.lst (cs.map fr))), some (.d (.lst (ys.map D.int))), v11, v12] S = some (.d (.lst (((List.range N).map (lnT ys cs N)).map Tie.d)), S) := by
  have hr : (N : Int) < 4611686018427387904 := by omega
  rw [List.map_map]
  refine mLc_R (N := N) _ rfl (by simp -implicitDefEqProofs [miRange1, hr]) (fun i hi => ?_) (by omega)
  refine ⟨[v0, v1, some (.d (.int N)), v3, v4, some (.d (.int i)), v6, v7, v8, some (.d (.lst (cs.map fr))), some (.d (.lst (ys.map D.int))), v11, v12], rfl, ?_⟩
  have et : (Tie.d ∘ lnT ys cs N) i = .tup [.int (nmOf ys i), .int (nmOf ys (((i + 1) % N : Nat) : Int)), fr (cf cs i)] := rfl
  rw [et]
  have hm : (i + 1) % N < N := Nat.mod_lt _ (by omega)
  have ga := nm_at h (a := (i : Int)) (by omega) (by omega)
  have gb := nm_at h (a := (((i + 1) % N : Nat) : Int)) (by omega) (by omega)
  have gc := cf_get (cs := cs) (k := i) (by omega)
  have md := modN (i := i) (N := N) (by omega)
  generalize ys.map D.int = yd at *
  generalize cs.map fr = cd at *
  generalize (((i + 1) % N : Nat) : Int) = mm at *
  simp -implicitDefEqProofs [sz3, ga, gb, gc, md]
end
end K50
end
section
set_option maxRecDepth 100000
namespace K50
open PySem L2 MW
theorem zero_fr : fr 0 = .tup [.int 0, .int 1] := rfl
theorem one_fr : fr 1 = .tup [.int 1, .int 1] := rfl
theorem bL1_exec {rowd ringd : D} {chd nmd : List D} {i a z : Int} {c w w' : Rat} {b : Bool} {S : Sto} (h1 : m__law_mul [.d (fr w), .d (fr c)] S = some (.d (fr w'), S))
    (g1 : atI chd i = some (fr c)) (g2 : atI nmd 0 = some (.int a)) (g3 : atI nmd (i + 1) = some (.int z))
    (p1 : m__law_pair [.d rowd, .d (.int a), .d (.int z), .d (.bl b)] S = some (.d (fr w'), S)) (p2 : m__law_pair [.d ringd, .d (.int a), .d (.int z), .d (.bl !b)] S = some (.d (fr w'), S)) (p3 : m__law_pair [.d rowd, .d (.int z), .d (.int a), .d (.bl b)] S = some (.d (fr 0), S)) (v0 v2 v7 v8 v11 v12 : Option W) :
    ∃ w7 w12, bL1 [v0, some (.d (.bl b)), v2, some (.d rowd), some (.d ringd), some (.d (.int i)), some (.d (fr w)), v7, v8, some (.d (.lst chd)), some (.d (.lst nmd)), v11, v12] S = some (.nx [v0, some (.d (.bl b)), v2, some (.d rowd), some (.d ringd), some (.d (.int i)), some (.d (fr w')), w7, v8, some (.d (.lst chd)), some (.d (.lst nmd)), v11, w12] S) := by
  have sm := same_frs [w', w', 0] (by simp) S
  simp only [List.map_cons, List.map_nil] at sm
  rw [zero_fr] at sm p3
  refine ⟨some (.d (.lst [fr w', fr w', .tup [.int 0, .int 1]])), some (.d (.lst [fr w', fr w', .tup [.int 0, .int 1]])), ?_⟩
  have z3 : 3 ≤ sizeLine := by rw [sizeLine_eq]; decide
  generalize fr w' = fw' at *
  generalize fr w = fw at *
  generalize fr c = fc at *
  simp -implicitDefEqProofs [bL1, h1, g1, g2, g3, p1, p2, p3, sm, sz2, z3]
theorem bL2_exec {chd : List D} {N k : Nat} {c w : Rat} {S : Sto} (hN : 0 < N) (h10 : N ≤ 10) (hk : k < N) (h1 : m__law_mul [.d (fr w), .d (fr c)] S = some (.d (fr (w * c)), S))
    (g1 : atI chd (k : Int) = some (fr c)) (s : Nat) (v0 v1 v3 v4 v7 v8 v10 v12 : Option W) :
    bL2 [v0, v1, some (.d (.int N)), v3, v4, some (.d (.int k)), some (.d (fr w)), v7, v8, some (.d (.lst chd)), v10, some (.d (.int s)), v12] S = some (.nx [v0, v1, some (.d (.int N)), v3, v4, some (.d (.int k)), some (.d (fr (if (k + 1) % N ≠ s then w * c else w))), v7, v8, some (.d (.lst chd)), v10, some (.d (.int s)), v12] S) := by
  have md := modN (i := k) hN
  by_cases e : (k + 1) % N = s
  · have e' : (((k + 1) % N : Nat) : Int) = (s : Int) := by omega
    rw [if_neg (fun z => z e)]
    generalize (((k + 1) % N : Nat) : Int) = mm at *
    subst e'
    generalize fr w = fw at *
    generalize fr c = fc at *
    simp -implicitDefEqProofs [bL2, md]
  · have e' : ¬ (((k + 1) % N : Nat) : Int) = (s : Int) := by omega
    rw [if_pos e]
    generalize (((k + 1) % N : Nat) : Int) = mm at *
    generalize fr w = fw at *
    generalize fr c = fc at *
    generalize fr (w * c) = fwc at *
    simp -implicitDefEqProofs [bL2, md, e', h1, g1]
theorem bL3_exec {chd : List D} {i : Int} {c w w' : Rat} {S : Sto} (h1 : m__law_mul [.d (fr w), .d (fr c)] S = some (.d (fr w'), S))
    (g1 : atI chd i = some (fr c)) (v0 v1 v2 v3 v4 v6 v7 v10 v11 v12 : Option W) :
    bL3 [v0, v1, v2, v3, v4, some (.d (.int i)), v6, v7, some (.d (fr w)), some (.d (.lst chd)), v10, v11, v12] S = some (.nx [v0, v1, v2, v3, v4, some (.d (.int i)), v6, v7, some (.d (fr w')), some (.d (.lst chd)), v10, v11, v12] S) := by
  generalize fr w' = fw' at *
  generalize fr w = fw at *
  generalize fr c = fc at *
  simp -implicitDefEqProofs [bL3, h1, g1]
section
variable {ys : List Int} {cs : List Rat} {N : Nat} {Ts1 Ts2 : List Tie}
structure Line (ys : List Int) (cs : List Rat) (N : Nat) (Ts1 Ts2 : List Tie) : Prop where
  pm : ys.Perm ((List.range N).map fun i : Nat => (i : Int))
  n2 : 3 ≤ N
  n10 : N ≤ 10
  cl : cs.length = N
  gc : ∀ c ∈ cs, GoodC c
  p1 : Ts1.Perm ((List.range (N - 1)).map (lnT ys cs N))
  p2 : Ts2.Perm ((List.range N).map (lnT ys cs N))
  s1 : (Ts1.map Tie.d).Pairwise fun x y => D.lt y x = false
  s2 : (Ts2.map Tie.d).Pairwise fun x y => D.lt y x = false
theorem Line.N1 (h : Line ys cs N Ts1 Ts2) : Net N Ts1 := lnT_net h.pm (by have := h.n2; omega) h.n10 h.cl h.gc (by omega) h.p1 h.s1
theorem Line.N2 (h : Line ys cs N Ts1 Ts2) : Net N Ts2 := lnT_net h.pm (by have := h.n2; omega) h.n10 h.cl h.gc (Nat.le_refl _) h.p2 h.s2
theorem Line.good (h : Line ys cs N Ts1 Ts2) : ∀ i, i < N → GoodC (cf cs i) := fun i hi => cf_good h.gc (by have := h.cl; omega)
theorem Line.mul (h : Line ys cs N Ts1 Ts2) {k : Nat} (hk : k < N) (S : Sto) : m__law_mul [.d (fr (pp (cf cs) k)), .d (fr (cf cs k))] S = some (.d (fr (pp (cf cs) (k + 1))), S) := by
  have n10 := h.n10
  rw [pp_succ]
  exact law_mul_ok (pp_sz h.good k (by omega)) (h.good k hk).sz (by omega) (by omega) (by omega) S
theorem Line.mulw (h : Line ys cs N Ts1 Ts2) (q : Nat → Bool) {k : Nat} (hk : k < N) (S : Sto) : m__law_mul [.d (fr (wp q (cf cs) k)), .d (fr (cf cs k))] S = some (.d (fr (wp q (cf cs) k * cf cs k)), S) := by
  have n10 := h.n10
  exact law_mul_ok (wp_sz h.good k (by omega)) (h.good k hk).sz (by omega) (by omega) (by omega) S
theorem Line.fwd (h : Line ys cs N Ts1 Ts2) {M : Nat} (hM : M ≤ N) {Ts : List Tie} (hp : Ts.Perm ((List.range M).map (lnT ys cs N))) {k : Nat} (hk : k + 1 < N) (hkM : k < M) : RX Ts [nmOf ys 0] (fun R => R (nmOf ys ((k : Int) + 1))) = pp (cf cs) (k + 1) := by
  rw [RX.perm hp (fun _ => Iff.rfl)]
  have := RX_fwd (c := cf cs) (ν := fun i : Nat => nmOf ys (i : Int)) (n := N) (by omega) (nm_injN h.pm) hM hk hkM
  rw [filter_lt_range (by omega)] at this
  exact this
theorem Line.bwd (h : Line ys cs N Ts1 Ts2) {k : Nat} (hk : k + 1 < N) : RX Ts1 [nmOf ys ((k : Int) + 1)] (fun R => R (nmOf ys 0)) = 0 := by
  rw [RX.perm h.p1 (fun _ => Iff.rfl)]
  exact RX_bwd (c := cf cs) (ν := fun i : Nat => nmOf ys (i : Int)) (n := N) (by omega) (nm_injN h.pm) hk
theorem Line.round (h : Line ys cs N Ts1 Ts2) {s : Nat} (hs : s < N) : RX Ts2 [nmOf ys (s : Int)] (AllR N) = wp (fun j => decide ((j + 1) % N ≠ s)) (cf cs) N := by
  rw [RX.perm h.p2 (fun _ => Iff.rfl)]
  exact RX_round (c := cf cs) (ν := fun i : Nat => nmOf ys (i : Int)) (n := N) (by omega) (nm_injN h.pm) hs (Nat.le_refl _) (AllR N) (nm_all h.pm) (fun _ a _ => a)
theorem Line.ends (h : Line ys cs N Ts1 Ts2) : RX Ts1 [nmOf ys 0] (AllR N) = pp (cf cs) (N - 1) := by
  have n2 := h.n2
  rw [RX.perm h.p1 (fun _ => Iff.rfl)]
  have e := RX_round (c := cf cs) (ν := fun i : Nat => nmOf ys (i : Int)) (n := N) (by omega) (nm_injN h.pm) (s := 0) (by omega) (N := N - 1) (by omega) (AllR N) (nm_all h.pm) (fun j a b => by
    rcases Nat.lt_or_ge (j + 1) N with q | q
    · omega
    · have e1 : j + 1 = N := by omega
      rw [e1, Nat.mod_self] at b
      exact absurd rfl b)
  rw [List.filter_eq_self.mpr fun j hj => by
    have := List.mem_range.mp hj
    rw [decide_eq_true_eq, Nat.mod_eq_of_lt (by omega)]
    omega] at e
  exact e
end
end K50
end
section
set_option maxRecDepth 100000
namespace K50
open PySem L2 MW
def eTold : ME := (mIf (mTest (mVar 1)) (mCall m_reach_all (mCons (mVar 4) (mCons (mBin gIx (mVar 10) (mVar 11)) mNil))) (mCallK m_reach_all [1, 0] 0 2 mNil (mCons (mBin gIx (mVar 10) (mVar 11)) (mCons (mVar 4) mNil))))
theorem eTold_exec {ringd r : D} {nmd : List D} {s a : Int} {b : Bool} {S : Sto} (g1 : atI nmd s = some (.int a)) (h1 : m_reach_all [.d ringd, .d (.int a)] S = some (.d r, S)) (v0 v2 v3 v5 v6 v7 v8 v9 v12 : Option W) :
    eTold [v0, some (.d (.bl b)), v2, v3, some (.d ringd), v5, v6, v7, v8, v9, some (.d (.lst nmd)), some (.d (.int s)), v12] S = some (.d r, S) := by
  cases b <;> simp -implicitDefEqProofs [eTold, g1, h1, kg10]
def bLast : MS := (sSeq (sAsg (mList .pure (mCons eTold (mCons (mCall m_reach_all (mCons (mVar 3) (mCons (mBin gIx (mVar 10) (mC (.int 0))) mNil))) mNil))) (mgName 7))
  (sSeq (sAsg (mTup (mCons (mC (.int 1)) (mCons (mC (.int 1)) mNil))) (mgName 8))
  (sSeq (sFor (miRange1 (mCons (mBin (gInt iSub) (mVar 2) (mC (.int 1))) mNil)) (mgName 5) bL3)
  (sRet (mCall (m__law_same 5) (mCons (mVar 7) (mCons (mList .pure (mCons (mVar 6) (mCons (mVar 8) mNil))) mNil)))))))
section
variable {ys : List Int} {cs : List Rat} {N : Nat} {Ts1 Ts2 : List Tie}
theorem loop1 (h : Line ys cs N Ts1 Ts2) (b : Bool) (S : Sto) (v0 v7 v8 v11 v12 v5 : Option W) : ∃ w5 w7 w12, MW.forM ⟨upFrom 0 (N - 1), none⟩ (mgName 5) bL1 (upFrom 0 (N - 1)) [v0, some (.d (.bl b)), some (.d (.int N)), some (.d (netD N Ts1)), some (.d (netD N Ts2)), v5, some (.d (fr 1)), v7, v8, some (.d (.lst (cs.map fr))), some (.d (.lst (ys.map D.int))), v11, v12] S =
    some (.nx [v0, some (.d (.bl b)), some (.d (.int N)), some (.d (netD N Ts1)), some (.d (netD N Ts2)), w5, some (.d (fr (pp (cf cs) (N - 1)))), w7, v8, some (.d (.lst (cs.map fr))), some (.d (.lst (ys.map D.int))), v11, w12] S) := by
  have n2 := h.n2
  have N1 := h.N1
  have N2 := h.N2
  obtain ⟨e', S', q1, w5, w7, w12, q2, q3⟩ := forR_ok (k := ⟨upFrom 0 (N - 1), none⟩) (g := mgName 5) (b := bL1) (N := N - 1) (fun i env A => ∃ w5 w7 w12, env = [v0, some (.d (.bl b)), some (.d (.int N)), some (.d (netD N Ts1)), some (.d (netD N Ts2)), w5, some (.d (fr (pp (cf cs) i))), w7, v8, some (.d (.lst (cs.map fr))), some (.d (.lst (ys.map D.int))), v11, w12] ∧ A = S) (fun _ _ _ _ => rfl)
    (fun i hi env A ⟨w5, w7, w12, e1, e2⟩ => by
      subst e1 e2
      have g0 := nm_get h.pm (a := 0) (by omega) (by omega) A
      have g1 := nm_get h.pm (a := (i : Int) + 1) (by omega) (by omega) A
      have p1 := pair_ok (one := nmOf ys 0) (other := nmOf ys ((i : Int) + 1)) N1 g0.2.1 g0.2.2 g1.2.1 g1.2.2 b A
      have p2 := pair_ok (one := nmOf ys 0) (other := nmOf ys ((i : Int) + 1)) N2 g0.2.1 g0.2.2 g1.2.1 g1.2.2 (!b) A
      have p3 := pair_ok (one := nmOf ys ((i : Int) + 1)) (other := nmOf ys 0) N1 g1.2.1 g1.2.2 g0.2.1 g0.2.2 b A
      rw [h.fwd (by omega) h.p1 (by omega) (by omega)] at p1
      rw [h.fwd (Nat.le_refl _) h.p2 (by omega) (by omega)] at p2
      rw [h.bwd (by omega)] at p3
      have q0 := nm_at h.pm (a := 0) (by omega) (by omega)
      have q1 := nm_at h.pm (a := (i : Int) + 1) (by omega) (by omega)
      obtain ⟨w7', w12', q⟩ := bL1_exec (h.mul (k := i) (by omega) A) (cf_get (by have := h.cl; omega)) q0 q1 p1 p2 p3 v0 (some (.d (.int N))) w7 v8 v11 w12
      exact ⟨_, A, _, A, rfl, q, some (.d (.int i)), w7', w12', rfl, rfl⟩) ⟨v5, v7, v12, rfl, rfl⟩
  subst q2 q3
  exact ⟨w5, w7, w12, q1⟩
theorem loop2 (h : Line ys cs N Ts1 Ts2) (s : Nat) (S : Sto) (v0 v1 v3 v4 v5 v7 v8 v10 v12 : Option W) : ∃ w5, MW.forM ⟨upFrom 0 N, none⟩ (mgName 5) bL2 (upFrom 0 N) [v0, v1, some (.d (.int N)), v3, v4, v5, some (.d (fr 1)), v7, v8, some (.d (.lst (cs.map fr))), v10, some (.d (.int s)), v12] S =
    some (.nx [v0, v1, some (.d (.int N)), v3, v4, w5, some (.d (fr (wp (fun j => decide ((j + 1) % N ≠ s)) (cf cs) N))), v7, v8, some (.d (.lst (cs.map fr))), v10, some (.d (.int s)), v12] S) := by
  have n2 := h.n2
  obtain ⟨e', S', q1, w5, q2, q3⟩ := forR_ok (k := ⟨upFrom 0 N, none⟩) (g := mgName 5) (b := bL2) (N := N) (fun i env A => ∃ w5, env = [v0, v1, some (.d (.int N)), v3, v4, w5, some (.d (fr (wp (fun j => decide ((j + 1) % N ≠ s)) (cf cs) i))), v7, v8, some (.d (.lst (cs.map fr))), v10, some (.d (.int s)), v12] ∧ A = S) (fun _ _ _ _ => rfl)
    (fun i hi env A ⟨w5, e1, e2⟩ => by
      subst e1 e2
      have q := bL2_exec (k := i) (by omega) h.n10 hi (h.mulw (fun j => decide ((j + 1) % N ≠ s)) hi A) (cf_get (by have := h.cl; omega)) s v0 v1 v3 v4 v7 v8 v10 v12
      refine ⟨_, A, _, A, rfl, q, some (.d (.int i)), ?_, rfl⟩
      rw [wp_succ]
      congr 9
      simp) ⟨v5, rfl, rfl⟩
  subst q2 q3
  exact ⟨w5, q1⟩
theorem loop3 (h : Line ys cs N Ts1 Ts2) (S : Sto) (v0 v1 v2 v3 v4 v5 v6 v7 v10 v11 v12 : Option W) : ∃ w5, MW.forM ⟨upFrom 0 (N - 1), none⟩ (mgName 5) bL3 (upFrom 0 (N - 1)) [v0, v1, v2, v3, v4, v5, v6, v7, some (.d (fr 1)), some (.d (.lst (cs.map fr))), v10, v11, v12] S =
    some (.nx [v0, v1, v2, v3, v4, w5, v6, v7, some (.d (fr (pp (cf cs) (N - 1)))), some (.d (.lst (cs.map fr))), v10, v11, v12] S) := by
  have n2 := h.n2
  obtain ⟨e', S', q1, w5, q2, q3⟩ := forR_ok (k := ⟨upFrom 0 (N - 1), none⟩) (g := mgName 5) (b := bL3) (N := N - 1) (fun i env A => ∃ w5, env = [v0, v1, v2, v3, v4, w5, v6, v7, some (.d (fr (pp (cf cs) i))), some (.d (.lst (cs.map fr))), v10, v11, v12] ∧ A = S) (fun _ _ _ _ => rfl)
    (fun i hi env A ⟨w5, e1, e2⟩ => by
      subst e1 e2
      have q := bL3_exec (h.mul (k := i) (by omega) A) (cf_get (by have := h.cl; omega)) v0 v1 v2 v3 v4 v6 v7 v10 v11 v12
      exact ⟨_, A, _, A, rfl, q, some (.d (.int i)), rfl, rfl⟩) ⟨v5, rfl, rfl⟩
  subst q2 q3
  exact ⟨w5, q1⟩
theorem line_right_ok {S : Sto} {n c : Nat} (hB : Bx S n c) (hc : c + 500 < 1000000) (b : Bool) :
    ∃ o, m__law_line_right [.ref n, .d (.bl b)] S = some (.d (.bl true), S.set n o) ∧ Bx (S.set n o) n (c + 100) := by
  have hn := hB.lt
  obtain ⟨r, o1, t1, r0, r8, k1⟩ := take_ok hB (by omega) (many := 8) (by decide) (by decide)
  obtain ⟨N, hN⟩ : ∃ N : Nat, 3 + r = N := ⟨(3 + r).toNat, by omega⟩
  have n3 : 3 ≤ N := by omega
  have n10 : N ≤ 10 := by omega
  obtain ⟨cs, o2, t2, k2, cg, cl⟩ := lcSure_ok (N := N) k1 (by omega) hn n10 (some (.d (.bl b))) none none none none none none none none none none
  obtain ⟨ys, o3, t3, pm, k3⟩ := some_ok k2 (by omega) (many := N) (by omega)
  rw [set_set] at t3 k3
  obtain ⟨Ts1, p1, s1, so1⟩ := gSorted_ties .pure (w := .d (.lst (((List.range (N - 1)).map (lnT ys cs N)).map Tie.d))) (S := S.set n o3) rfl
  obtain ⟨Ts2, p2, s2, so2⟩ := gSorted_ties .pure (w := .d (.lst (((List.range N).map (lnT ys cs N)).map Tie.d))) (S := S.set n o3) rfl
  have L : Line ys cs N Ts1 Ts2 := ⟨pm, n3, n10, cl, cg, p1, p2, so1, so2⟩
  obtain ⟨a, o4, t4, a0, aN, k4⟩ := take_ok k3 (by omega) (many := (N : Int)) (by omega) (by omega)
  rw [set_set] at t4 k4
  obtain ⟨s, rfl⟩ : ∃ s : Nat, a = s := ⟨a.toNat, by omega⟩
  have hs : s < N := by omega
  refine ⟨o4, ?_, k4.mono (by omega)⟩
  have lr := lstRg (f := mVar 2) (env := [some (.ref n), some (.d (.bl b)), some (.d (.int N)), none, none, none, none, none, none, none, none, none, none]) (S := S.set n o2) (many := N) (by omega) rfl
  have lc1 := lcRow_ok (cs := cs) pm (by omega) n10 cl (some (.ref n)) (some (.d (.bl b))) none none none none none none none none (S.set n o3)
  have lc2 := lcRing_ok (cs := cs) pm (by omega) n10 cl (some (.ref n)) (some (.d (.bl b))) (some (.d (netD N Ts1))) none none none none none none none (S.set n o3)
  have hr : ((N : Int) - 1) < 4611686018427387904 := by omega
  have hr' : (N : Int) < 4611686018427387904 := by omega
  have e : ((N : Int) - 1).toNat = N - 1 := by omega
  have le1 : (1 : Int) ≤ N := by omega
  have mi1 : ∀ v0 v1 r S, miRange1 (mCons (mBin (gInt iSub) (mVar 2) (mC (.int 1))) mNil) (v0 :: v1 :: some (.d (.int N)) :: r) S = some (⟨upFrom 0 (N - 1), none⟩, S) := fun _ _ _ _ => by
    simp -implicitDefEqProofs [miRange1, hr, e]
    try omega
  have mi2 : ∀ v0 v1 r S, miRange1 (mCons (mVar 2) mNil) (v0 :: v1 :: some (.d (.int N)) :: r) S = some (⟨upFrom 0 N, none⟩, S) := fun _ _ _ _ => by
    simp -implicitDefEqProofs [miRange1, hr']
  obtain ⟨u5, u7, u12, f1⟩ := loop1 L b (S.set n o4) (some (.ref n)) none none (some (.d (.int s))) none none
  obtain ⟨x5, f2⟩ := loop2 L s (S.set n o4) (some (.ref n)) (some (.d (.bl b))) (some (.d (netD N Ts1))) (some (.d (netD N Ts2))) u5 u7 none (some (.d (.lst (ys.map D.int)))) u12
  have gs := nm_get pm (a := (s : Int)) (by omega) (by omega) (S.set n o4)
  have g0 := nm_get pm (a := 0) (by omega) (by omega) (S.set n o4)
  have N1 := L.N1
  have N2 := L.N2
  have ra2 := reach_all_ok N2.m0 N2.m1 N2.ln N2.ok N2.so gs.2.1 gs.2.2 (S.set n o4)
  have ra1 := reach_all_ok N1.m0 N1.m1 N1.ln N1.ok N1.so g0.2.1 g0.2.2 (S.set n o4)
  rw [L.round hs] at ra2
  rw [L.ends] at ra1
  have qs := nm_at pm (a := (s : Int)) (by omega) (by omega)
  have q0 := nm_at pm (a := 0) (by omega) (by omega)
  have et := eTold_exec (b := b) qs ra2 (some (.ref n)) (some (.d (.int N))) (some (.d (netD N Ts1))) x5 (some (.d (fr (wp (fun j => decide ((j + 1) % N ≠ s)) (cf cs) N)))) u7 none (some (.d (.lst (cs.map fr)))) u12
  obtain ⟨y5, f3⟩ := loop3 L (S.set n o4) (some (.ref n)) (some (.d (.bl b))) (some (.d (.int N))) (some (.d (netD N Ts1))) (some (.d (netD N Ts2))) x5 (some (.d (fr (wp (fun j => decide ((j + 1) % N ≠ s)) (cf cs) N)))) (some (.d (.lst [fr (wp (fun j => decide ((j + 1) % N ≠ s)) (cf cs) N), fr (pp (cf cs) (N - 1))]))) (some (.d (.lst (ys.map D.int)))) (some (.d (.int s))) u12
  have sm := same_frs [wp (fun j => decide ((j + 1) % N ≠ s)) (cf cs) N, pp (cf cs) (N - 1)] (by simp) (S.set n o4)
  simp only [List.map_cons, List.map_nil] at sm
  have gt : ∀ xs S, gTupOf [.d (.lst xs)] S = some (.d (.tup xs), S) := fun _ _ => (rfl : _ = _).trans rfl
  have en1 : (.tup [.int N, .tup (Ts1.map Tie.d)] : D) = netD N Ts1 := rfl
  have en2 : (.tup [.int N, .tup (Ts2.map Tie.d)] : D) = netD N Ts2 := rfl
  have z2' : 2 ≤ sizeLine := by rw [sizeLine_eq]; decide
  rw [one_fr] at f1 f2 f3
  have ls : b__law_line_right = _ := line_right_is
  rw [← show eTold = (mIf (mTest (mVar 1)) (mCall m_reach_all (mCons (mVar 4) (mCons (mBin gIx (mVar 10) (mVar 11)) mNil))) (mCallK m_reach_all [1, 0] 0 2 mNil (mCons (mBin gIx (mVar 10) (mVar 11)) (mCons (mVar 4) mNil)))) from rfl] at ls
  rw [← en1, ← en2] at f1 f2 et f3 
  rw [← en1] at lc2 ra1
  rw [newL_pure] at s1 s2
  generalize fr (wp (fun j => decide ((j + 1) % N ≠ s)) (cf cs) N) = fw at *
  generalize fr (pp (cf cs) (N - 1)) = fp at *
  generalize ((List.range (N - 1)).map (lnT ys cs N)).map Tie.d = A1 at *
  generalize ((List.range N).map (lnT ys cs N)).map Tie.d = A2 at *
  generalize Ts1.map Tie.d = B1 at *
  generalize Ts2.map Tie.d = B2 at *
  generalize ys.map D.int = yd at *
  generalize cs.map fr = cd at *
  simp -implicitDefEqProofs [m__law_line_right, runDef, ls, startE, sz2, t1, hN, t2, lr, t3, lc1, s1, gt, lc2, s2, t4, mi1, mi2, f1, f2, et, q0, ra1, z2', f3, sm, fin]
end
end K50
end
section
set_option maxRecDepth 100000
namespace K50
open PySem L2 MW
def ePart : ME := (mLc .pure (miRange1 (mCons (mBin (gAdd .pure) (mC (.int 1)) (mCall m__law_take (mCons (mVar 0) (mCons (mC (.int 6)) mNil)))) mNil)) (.nm 15) tYesM (mBin (gAdd .pure) (mCall gTupOf (mCons (mSl .pure (mCall m__law_mixed (mCons (mVar 0) (mCons (mLstRg1 .pure (mVar 4)) mNil))) mNo (mSo (mC (.int 2)))) mNil)) (mTup (mCons (mCall m__law_chance (mCons (mVar 0) mNil)) mNil))) [15])
def eShift : ME := (mLc .pure (miSeq (mBin gIx (mVar 3) (mC (.int 1)))) (.tp [12, 13, 14]) tYesM (mTup (mCons (mBin (gAdd .pure) (mVar 12) (mVar 9)) (mCons (mBin (gAdd .pure) (mVar 13) (mVar 9)) (mCons (mVar 14) mNil)))) [12, 13, 14])
def eRen : ME := (mLc .pure (miSeq (mVar 5)) (.tp [12, 13, 14]) tYesM (mTup (mCons (mBin gIx (mVar 6) (mVar 12)) (mCons (mBin gIx (mVar 6) (mVar 13)) (mCons (mVar 14) mNil)))) [12, 13, 14])
theorem row_right_is : b__law_row_right = (sSeq (sAsg (mList .pure (mCons (mBin (gAdd .pure) (mC (.int 2)) (mCall m__law_take (mCons (mVar 0) (mCons (mC (.int 3)) mNil)))) (mCons (mBin (gAdd .pure) (mC (.int 2)) (mCall m__law_take (mCons (mVar 0) (mCons (mC (.int 3)) mNil)))) mNil))) (mgName 2))
  (sSeq (sAsg (mList .own mNil) (mgName 3))
  (sSeq (sFor (miSeq (mVar 2)) (mgName 4) (sExpr (mMeth "list" gAppend (mVar 3) (mCons ePart mNil))))
  (sSeq (sAsg (mTup (mCons (mBin (gInt iSub) (mBin gIx (mVar 2) (mC (.int 0))) (mC (.int 1))) (mCons (mBin (gInt iSub) (mCall (gIs fun is => some (.int is.sum)) (mCons (mVar 2) mNil)) (mC (.int 1))) mNil))) (mgTup 2 (mgCons (mgName 9) (mgCons (mgName 4) mgNil))))
  (sSeq (sAsg (mBin (gAdd .pure) (mBin gIx (mVar 3) (mC (.int 0))) eShift) (mgName 5))
  (sSeq (sAsg (mCall m__law_mixed (mCons (mVar 0) (mCons (mLstRg1 .pure (mVar 4)) mNil))) (mgName 6))
  (sSeq (sAsg (mTup (mCons (mVar 4) (mCons (mCall gTupOf (mCons (mCall (gSorted .pure) (mCons eRen mNil)) mNil)) mNil))) (mgName 7))
  (sSeq (sPar 10 11 (mCons (mCall m__law_take (mCons (mVar 0) (mCons (mBin (gAdd .pure) (mVar 9) (mC (.int 1))) mNil))) (mCons (mCall m__law_take (mCons (mVar 0) (mCons (mBin gIx (mVar 2) (mC (.int 1))) mNil))) mNil)))
  (sSeq (sAsg (mCall m__law_mul (mCons (mBin gIx (mBin gIx (mCall m__law_reach (mCons (mBin gIx (mVar 2) (mC (.int 0))) (mCons (mBin gIx (mVar 3) (mC (.int 0))) (mCons (mVar 10) mNil)))) (mC (.int 0))) (mVar 9)) (mCons (mBin gIx (mBin gIx (mCall m__law_reach (mCons (mBin gIx (mVar 2) (mC (.int 1))) (mCons (mBin gIx (mVar 3) (mC (.int 1))) (mCons (mC (.int 0)) mNil)))) (mC (.int 0))) (mVar 11)) mNil))) (mgName 8))
  (sRet (mCall (m__law_same 5) (mCons (mCall m__law_pair (mCons (mVar 7) (mCons (mBin gIx (mVar 6) (mVar 10)) (mCons (mBin gIx (mVar 6) (mBin (gAdd .pure) (mVar 11) (mVar 9))) (mCons (mVar 1) mNil))))) (mCons (mVar 8) mNil))))))))))))) := rfl
theorem ePart_ok {S0 : Sto} {n c many : Nat} {o X : Ob} (hB : Bx (S0.set n o) n c) (hc : c + 100 < 1000000) (hn : n < S0.length) (h2 : 2 ≤ many) (hm : many ≤ 4) (v1 v2 v3 v5 v6 v7 v8 v9 v10 v11 v12 v13 v14 v15 : Option W) :
    ∃ (L : List Tie) (o' : Ob), ePart [some (.ref n), v1, v2, v3, some (.d (.int many)), v5, v6, v7, v8, v9, v10, v11, v12, v13, v14, v15] (S0.set n o ++ [X]) = some (.d (.lst (L.map Tie.d)), S0.set n o' ++ [X]) ∧ Bx (S0.set n o') n (c + 40) ∧ (∀ t ∈ L, GoodT many t) ∧ L.length ≤ 6 := by
  obtain ⟨r, o1, t1, r0, r6, k1⟩ := take_ok (hB.app (T := [X])) (by omega) (many := 6) (by decide) (by decide)
  have hln : n < (S0.set n o).length := by simpa using hn
  rw [set_app _ _ _ hln, set_set] at t1 k1
  replace k1 := k1.of_app (by simpa using hn)
  have hr : (1 + r) < 4611686018427387904 := by omega
  obtain ⟨K, hK⟩ : ∃ K : Nat, 1 + r = K := ⟨(1 + r).toNat, by omega⟩
  have st := mLc_st (mk := .pure) (fi := miRange1 (mCons (mBin (gAdd .pure) (mC (.int 1)) (mCall m__law_take (mCons (mVar 0) (mCons (mC (.int 6)) mNil)))) mNil)) (t := .nm 15) (e := (mBin (gAdd .pure) (mCall gTupOf (mCons (mSl .pure (mCall m__law_mixed (mCons (mVar 0) (mCons (mLstRg1 .pure (mVar 4)) mNil))) mNo (mSo (mC (.int 2)))) mNil)) (mTup (mCons (mCall m__law_chance (mCons (mVar 0) mNil)) mNil)))) (vs := [15])
    (env := [some (.ref n), v1, v2, v3, some (.d (.int many)), v5, v6, v7, v8, v9, v10, v11, v12, v13, v14, v15]) (S := S0.set n o ++ [X]) (S1 := S0.set n o1 ++ [X]) (k := ⟨upFrom 0 K, none⟩) rfl (by
      rw [hK] at hr
      simp -implicitDefEqProofs [miRange1, t1, hK, hr])
    (fun acc rest S' => ∃ (L : List Tie) (o' : Ob), acc = L.map Tie.d ∧ S' = S0.set n o' ++ [X] ∧ Bx (S0.set n o') n (c + 1 + 5 * L.length) ∧ (∀ t ∈ L, GoodT many t) ∧ L.length + rest.length = K)
    (fun _ _ _ _ => rfl) (fun x r acc S' hI => ?_) ⟨[], o1, rfl, rfl, by simpa using k1, (fun t h => by cases h), by simp [upFrom_length]⟩
  · obtain ⟨ys, S', q, L, o', rfl, rfl, q3, q4, q5⟩ := st
    exact ⟨L, o', q, q3.mono (by simp at q5; omega), q4, by simp at q5; omega⟩
  · obtain ⟨L, o', rfl, rfl, q3, q4, q5⟩ := hI
    simp only [List.length_cons] at q5
    refine ⟨by rw [sizeLine_eq]; simp; omega, ?_⟩
    obtain ⟨ys, o2, w1, w2, w3⟩ := some_ok (q3.app (T := [X])) (by omega) (many := many) (by omega)
    have hln : n < (S0.set n o').length := by simpa using hn
    rw [set_app _ _ _ hln, set_set] at w1 w3
    obtain ⟨a, b, rr, rfl, a0, a1, b0, b1, ne⟩ := two_of w2 h2
    obtain ⟨q, o3, u1, u2, u3⟩ := chance_ok w3 (by omega)
    have hln2 : n < (S0.set n o2).length := by simpa using hn
    rw [set_app _ _ _ hln2, set_set] at u1 u3
    have hg : GoodT many ⟨a, b, q⟩ := ⟨a0, a1, b0, b1, ne, u2⟩
    refine ⟨[some (.ref n), v1, v2, v3, some (.d (.int many)), v5, v6, v7, v8, v9, v10, v11, v12, v13, v14, some (.d x)], (⟨a, b, q⟩ : Tie).d, S0.set n o3 ++ [X], rfl, ?_, L ++ [⟨a, b, q⟩], o3, by simp, rfl, (u3.of_app (by simpa using hn)).mono (by simp; omega), ?_, by simp; omega⟩
    · have ed : (⟨a, b, q⟩ : Tie).d = .tup [.int a, .int b, fr q] := rfl
      rw [ed]
      have lr := lstRg (f := mVar 4) (env := [some (.ref n), v1, v2, v3, some (.d (.int many)), v5, v6, v7, v8, v9, v10, v11, v12, v13, v14, some (.d x)]) (S := S0.set n o' ++ [X]) (many := many) (by omega) rfl
      have gt : ∀ xs S, gTupOf [.d (.lst xs)] S = some (.d (.tup xs), S) := fun _ _ => (rfl : _ = _).trans rfl
      have z1 : 1 ≤ sizeLine := by rw [sizeLine_eq]; decide
      simp -implicitDefEqProofs [lr, w1, gSl_lst, cut2, gt, u1, sz3, z1]
    · intro t h
      rcases List.mem_append.mp h with z | z
      · exact q4 t z
      · rw [List.mem_singleton.mp z]; exact hg
def Tie.sh (d : Int) (t : Tie) : Tie := t.ren fun x => x + d
theorem eShift_ok {L : List Tie} {d : Int} (hl : L.length ≤ 100) {p : Nat} {x : D} {S : Sto} (hp : S[p]? = some (.lst [x, .lst (L.map Tie.d)])) (v0 v1 v2 v4 v5 v6 v7 v8 v10 v11 v12 v13 v14 v15 : Option W) :
    eShift [v0, v1, v2, some (.ref p), v4, v5, v6, v7, v8, some (.d (.int d)), v10, v11, v12, v13, v14, v15] S = some (.d (.lst ((L.map (Tie.sh d)).map Tie.d)), S) := by
  rw [List.map_map]
  have g : gIx (.ref p) (.d (.int 1)) S = some (.d (.lst (L.map Tie.d)), S) := by
    rw [gIx_ref hp]
    rfl
  refine mLc_L L Tie.d _ rfl (miSeq_lst (by simp -implicitDefEqProofs [g])) rfl (fun t ht => ?_) (by omega)
  refine ⟨[v0, v1, v2, some (.ref p), v4, v5, v6, v7, v8, some (.d (.int d)), v10, v11, some (.d (.int t.a)), some (.d (.int t.b)), some (.d (fr t.c)), v15], rfl, ?_⟩
  have et : (Tie.d ∘ Tie.sh d) t = .tup [.int (t.a + d), .int (t.b + d), fr t.c] := rfl
  rw [et]
  simp -implicitDefEqProofs [sz3]
theorem eRen_ok {ys : List Int} {many : Nat} (h : ys.Perm ((List.range many).map fun i : Nat => (i : Int))) {L : List Tie} (ht : ∀ t ∈ L, GoodT many t) (hl : L.length ≤ 100) (v0 v1 v2 v3 v4 v7 v8 v9 v10 v11 v12 v13 v14 v15 : Option W) (S : Sto) :
    eRen [v0, v1, v2, v3, v4, some (.d (.lst (L.map Tie.d))), some (.d (.lst (ys.map D.int))), v7, v8, v9, v10, v11, v12, v13, v14, v15] S = some (.d (.lst ((L.map (Tie.ren (nmOf ys))).map Tie.d)), S) := by
  rw [List.map_map]
  refine mLc_L L Tie.d _ rfl (miSeq_lst rfl) rfl (fun t htm => ?_) (by omega)
  have g := ht t htm
  refine ⟨[v0, v1, v2, v3, v4, some (.d (.lst (L.map Tie.d))), some (.d (.lst (ys.map D.int))), v7, v8, v9, v10, v11, some (.d (.int t.a)), some (.d (.int t.b)), some (.d (fr t.c)), v15], rfl, ?_⟩
  have et : (Tie.d ∘ Tie.ren (nmOf ys)) t = .tup [.int (nmOf ys t.a), .int (nmOf ys t.b), fr t.c] := rfl
  rw [et]
  have ga := nm_at h g.a0 g.a1
  have gb := nm_at h g.b0 g.b1
  generalize ys.map D.int = yd at *
  generalize L.map Tie.d = Ld at *
  simp -implicitDefEqProofs [sz3, ga, gb]
end K50
end
section
set_option maxRecDepth 100000
namespace K50
open PySem L2 MW
theorem Ex_part : ∀ (T : List Tie) {f : List Tie → Rat}, (∀ S, Part (f S) 1) → Part (Ex Tie.c T f) (dn T)
  | [], f, h => h []
  | t :: T, f, h => by
    unfold Ex dn
    exact ((Part.self t.c).mul (Ex_part T fun S => h (t :: S))).add ((Part.self t.c).rest.mul (Ex_part T h))
theorem RX_part (T : List Tie) (P : List Int) (G : (Int → Prop) → Prop) : Part (RX T P G) (dn T) := Ex_part T fun S => by
  unfold ind
  split
  · exact ⟨1, by simp⟩
  · exact ⟨0, by simp⟩
theorem RX_le {T : List Tie} (h : ∀ t ∈ T, 0 ≤ t.c ∧ t.c ≤ 1) (P : List Int) (G : (Int → Prop) → Prop) : RX T P G ≤ 1 := by
  have e := Ex_add (p := Tie.c) T (fun S => ind (G (Rch S P))) (fun S => ind (¬ G (Rch S P)))
  have e2 : (fun S => ind (G (Rch S P)) + ind (¬ G (Rch S P))) = fun _ : List Tie => (1 : Rat) := funext fun S => by
    by_cases q : G (Rch S P)
    · rw [ind_t q, ind_f (fun z => z q)]; grind
    · rw [ind_f q, ind_t q]; grind
  rw [e2, Ex_const] at e
  have g := Ex_nonneg (p := Tie.c) (T := T) (f := fun S => ind (¬ G (Rch S P))) h fun _ _ => ind_ge _
  show Ex Tie.c T (fun S => ind (G (Rch S P))) ≤ 1
  grind
theorem RX_sz {many : Int} {T : List Tie} (h : ∀ t ∈ T, TOk many t) (hl : T.length ≤ 12) (P : List Int) (G : (Int → Prop) → Prop) : Sz (RX T P G) 100 := by
  refine (RX_part T P G).sz (by have := dn_pos T; omega) (Nat.lt_of_le_of_lt (dn_lt T h) (Nat.pow_lt_pow_right (by decide) (by omega))) (RX.ge (fun t ht => ⟨(h t ht).c0, (h t ht).c1⟩) P G) (RX_le (fun t ht => ⟨(h t ht).c0, (h t ht).c1⟩) P G)
section
variable {m1 m2 : Nat} {P0 P1 : List Tie} {ys : List Int} {one other : Int}
/-- two parts, the second moved behind the first -/
def rowT (m1 : Nat) (P0 P1 : List Tie) : List Tie := P0 ++ P1.map (Tie.sh ((m1 : Int) - 1))
theorem rowT_good (h1 : 2 ≤ m1) (h2 : 2 ≤ m2) (g0 : ∀ t ∈ P0, GoodT m1 t) (g1 : ∀ t ∈ P1, GoodT m2 t) : ∀ t ∈ rowT m1 P0 P1, GoodT ((m1 + m2 - 1 : Nat) : Int) t := fun t ht => by
  unfold rowT at ht
  rcases List.mem_append.mp ht with q | q
  · have g := g0 t q
    have := g.a0; have := g.a1; have := g.b0; have := g.b1
    exact ⟨g.a0, by omega, g.b0, by omega, g.ne, g.gc⟩
  · obtain ⟨u, hu, rfl⟩ := List.mem_map.mp q
    have g := g1 u hu
    have := g.a0; have := g.a1; have := g.b0; have := g.b1
    exact ⟨by show 0 ≤ u.a + _; omega, by show u.a + _ < _; omega, by show 0 ≤ u.b + _; omega, by show u.b + _ < _; omega, fun e => g.ne (by have : u.a + ((m1 : Int) - 1) = u.b + ((m1 : Int) - 1) := e; omega), g.gc⟩
theorem rowT_law (h1 : 2 ≤ m1) (h2 : 2 ≤ m2) (g0 : ∀ t ∈ P0, GoodT m1 t) (g1 : ∀ t ∈ P1, GoodT m2 t) (hp : ys.Perm ((List.range (m1 + m2 - 1)).map fun i : Nat => (i : Int))) {Ts : List Tie} (hs : Ts.Perm ((rowT m1 P0 P1).map (Tie.ren (nmOf ys))))
    (o0 : 0 ≤ one) (o1 : one < m1) (k0 : 0 ≤ other) (k1 : other < m2) : RX Ts [nmOf ys one] (fun R => R (nmOf ys (other + ((m1 : Int) - 1)))) = RX P0 [one] (fun R => R ((m1 : Int) - 1)) * RX P1 [0] fun R => R other := by
  have gT := rowT_good h1 h2 g0 g1
  rw [RX.perm hs (fun _ => Iff.rfl)]
  rw [RX.ren (nmOf ys) ((List.range (m1 + m2 - 1)).map fun i : Nat => (i : Int)) (fun x hx y hy e => by
    obtain ⟨i, hi, rfl⟩ := List.mem_map.mp hx
    obtain ⟨j, hj, rfl⟩ := List.mem_map.mp hy
    have hi := List.mem_range.mp hi
    have hj := List.mem_range.mp hj
    exact nm_inj hp (by omega) (by omega) (by omega) (by omega) e) (fun t ht => by
    have g := gT t ht
    have := g.a0; have := g.a1; have := g.b0; have := g.b1
    exact ⟨List.mem_map.mpr ⟨t.a.toNat, List.mem_range.mpr (by omega), by omega⟩, List.mem_map.mpr ⟨t.b.toNat, List.mem_range.mpr (by omega), by omega⟩⟩)
    (List.mem_map.mpr ⟨one.toNat, List.mem_range.mpr (by omega), by omega⟩) (List.mem_map.mpr ⟨(other + ((m1 : Int) - 1)).toNat, List.mem_range.mpr (by omega), by omega⟩)]
  unfold rowT
  rw [RX.cut (A := fun x => x < m1) (B := fun x => (m1 : Int) - 1 ≤ x) (z := (m1 : Int) - 1) (fun t ht => ⟨(g0 t ht).a1, (g0 t ht).b1⟩) (fun t ht => by
    obtain ⟨u, hu, rfl⟩ := List.mem_map.mp ht
    have g := g1 u hu
    have := g.a0; have := g.b0
    exact ⟨by show (m1 : Int) - 1 ≤ u.a + _; omega, by show (m1 : Int) - 1 ≤ u.b + _; omega⟩) (fun x a b => by
    have a : x < (m1 : Int) := a
    have b : (m1 : Int) - 1 ≤ x := b
    omega) o1 (by show (m1 : Int) - 1 ≤ other + _; omega)]
  congr 1
  have := RX.ren (fun x => x + ((m1 : Int) - 1)) ((List.range m2).map fun i : Nat => (i : Int)) (fun x hx y hy e => by
    have e : x + ((m1 : Int) - 1) = y + ((m1 : Int) - 1) := e
    omega) (L := P1) (fun t ht => by
    have g := g1 t ht
    have := g.a0; have := g.a1; have := g.b0; have := g.b1
    exact ⟨List.mem_map.mpr ⟨t.a.toNat, List.mem_range.mpr (by omega), by omega⟩, List.mem_map.mpr ⟨t.b.toNat, List.mem_range.mpr (by omega), by omega⟩⟩) (x := 0) (y := other)
    (List.mem_map.mpr ⟨0, List.mem_range.mpr (by omega), rfl⟩) (List.mem_map.mpr ⟨other.toNat, List.mem_range.mpr (by omega), by omega⟩)
  simp only [Int.zero_add] at this
  exact this
end
end K50
end
section
set_option maxRecDepth 100000
namespace K50
open PySem L2 MW
theorem s1 (A : Sto) (a c : Ob) {n : Nat} (h : n = A.length) : (A ++ [a]).set n c = A ++ [c] := by subst h; simp
theorem g1 (A : Sto) (a : Ob) {n : Nat} (h : n = A.length) : (A ++ [a])[n]? = some a := by subst h; simp
theorem row_right_ok {S : Sto} {n c : Nat} (hB : Bx S n c) (hc : c + 500 < 1000000) (b : Bool) :
    ∃ o, m__law_row_right [.ref n, .d (.bl b)] S = some (.d (.bl true), S.set n o) ∧ Bx (S.set n o) n (c + 200) := by
  have hn := hB.lt
  obtain ⟨r1, o1, t1, a1, b1, k1⟩ := take_ok hB (by omega) (many := 3) (by decide) (by decide)
  obtain ⟨r2, o2, t2, a2, b2, k2⟩ := take_ok k1 (by omega) (many := 3) (by decide) (by decide)
  rw [set_set] at t2 k2
  obtain ⟨m1, h1⟩ : ∃ m : Nat, 2 + r1 = m := ⟨(2 + r1).toNat, by omega⟩
  obtain ⟨m2, h2⟩ : ∃ m : Nat, 2 + r2 = m := ⟨(2 + r2).toNat, by omega⟩
  obtain ⟨P0, o3, t3, k3, g0, l0⟩ := ePart_ok (many := m1) (X := .lst []) k2 (by omega) hn (by omega) (by omega) (some (.d (.bl b))) (some (.d (.lst [.int m1, .int m2]))) (some (.ref S.length)) none none none none none none none none none none none
  obtain ⟨P1, o4, t4, k4, g1', l1⟩ := ePart_ok (many := m2) (X := .lst [.lst (P0.map Tie.d)]) k3 (by omega) hn (by omega) (by omega) (some (.d (.bl b))) (some (.d (.lst [.int m1, .int m2]))) (some (.ref S.length)) none none none none none none none none none none none
  have ap1 := append_ref (S := S.set n o3 ++ [.lst []]) (n := S.length) (x := .lst (P0.map Tie.d)) (g1 _ _ (by simp)) (by simp)
  have ap2 := append_ref (S := S.set n o4 ++ [.lst [.lst (P0.map Tie.d)]]) (n := S.length) (x := .lst (P1.map Tie.d)) (g1 _ _ (by simp)) (by simp)
  rw [s1 _ _ _ (by simp)] at ap1 ap2
  have ty0 : W.ty (S.set n o2 ++ [.lst []]) (.ref S.length) = some "list" := ty_ref (g1 _ _ (by simp))
  have ty1 : W.ty (S.set n o3 ++ [.lst [.lst (P0.map Tie.d)]]) (.ref S.length) = some "list" := ty_ref (g1 _ _ (by simp))
  have hA : (S.set n o4 ++ [.lst [.lst (P0.map Tie.d), .lst (P1.map Tie.d)]])[S.length]? = some (.lst [.lst (P0.map Tie.d), .lst (P1.map Tie.d)]) := g1 _ _ (by simp)
  have sh := eShift_ok (d := (m1 : Int) - 1) (by omega) hA (some (.ref n)) (some (.d (.bl b))) (some (.d (.lst [.int m1, .int m2]))) (some (.d (.int ((m1 : Int) + m2 - 1)))) none none none none none none none none none none
  obtain ⟨many, hm⟩ : ∃ m : Nat, m1 + m2 - 1 = m := ⟨_, rfl⟩
  have hmi : (m1 : Int) + m2 - 1 = many := by omega
  obtain ⟨ys, o5, t5, pm, k5⟩ := some_ok (k4.app (T := [.lst [.lst (P0.map Tie.d), .lst (P1.map Tie.d)]])) (by omega) (many := many) (by omega)
  have hl4 : n < (S.set n o4).length := by simpa using hn
  rw [set_app _ _ _ hl4, set_set] at t5 k5
  have gT := rowT_good (m1 := m1) (m2 := m2) (P0 := P0) (P1 := P1) (by omega) (by omega) g0 g1'
  rw [hm] at gT
  have lT : (rowT m1 P0 P1).length ≤ 12 := by unfold rowT; simp; omega
  have rn := eRen_ok pm gT (by omega) (some (.ref n)) (some (.d (.bl b))) (some (.d (.lst [.int m1, .int m2]))) (some (.ref S.length)) (some (.d (.int many))) none none (some (.d (.int ((m1 : Int) - 1)))) none none none none none none (S.set n o5 ++ [.lst [.lst (P0.map Tie.d), .lst (P1.map Tie.d)]])
  obtain ⟨Ts, ps, ss, so⟩ := gSorted_ties .pure (w := .d (.lst (((rowT m1 P0 P1).map (Tie.ren (nmOf ys))).map Tie.d))) (S := S.set n o5 ++ [.lst [.lst (P0.map Tie.d), .lst (P1.map Tie.d)]]) rfl
  rw [newL_pure] at ss
  have NT : Net many Ts := ⟨by omega, by omega, by rw [ps.length_eq]; simpa using lT, fun t ht => by
    obtain ⟨u, hu, rfl⟩ := List.mem_map.mp (ps.mem_iff.mp ht)
    exact (renGood pm (gT u hu)).ok.1, so⟩
  obtain ⟨one, o6, t6, e0, e1, k6⟩ := take_ok k5 (by omega) (many := (m1 : Int)) (by omega) (by omega)
  have hl5 : n < (S.set n o5).length := by simpa using hn
  rw [set_app _ _ _ hl5, set_set] at t6 k6
  obtain ⟨other, o7, t7, f0, f1, k7⟩ := take_ok k6 (by omega) (many := (m2 : Int)) (by omega) (by omega)
  have hl6 : n < (S.set n o6).length := by simpa using hn
  rw [set_app _ _ _ hl6, set_set] at t7 k7
  have hA7 : (S.set n o7 ++ [.lst [.lst (P0.map Tie.d), .lst (P1.map Tie.d)]])[S.length]? = some (.lst [.lst (P0.map Tie.d), .lst (P1.map Tie.d)]) := g1 _ _ (by simp)
  have u0 : ∀ t ∈ P0, TOk m1 t := fun t ht => (g0 t ht).ok.1
  have u1 : ∀ t ∈ P1, TOk m2 t := fun t ht => (g1' t ht).ok.1
  have q1 := law_reach_ok (many := m1) (T := P0) (start := one) (by omega) (by omega) u0 e0 (by omega) (S.set n o7 ++ [.lst [.lst (P0.map Tie.d), .lst (P1.map Tie.d)]])
  have q2 := law_reach_ok (many := m2) (T := P1) (start := 0) (by omega) (by omega) u1 (by omega) (by omega) (S.set n o7 ++ [.lst [.lst (P0.map Tie.d), .lst (P1.map Tie.d)]])
  have gr1 := gRow (many := m1) (T := P0) (one := one) (x := (m1 : Int) - 1) (by omega) (by omega) (S.set n o7 ++ [.lst [.lst (P0.map Tie.d), .lst (P1.map Tie.d)]])
  have gr2 := gRow (many := m2) (T := P1) (one := 0) (x := other) f0 f1 (S.set n o7 ++ [.lst [.lst (P0.map Tie.d), .lst (P1.map Tie.d)]])
  have ml := law_mul_ok (RX_sz u0 (by omega) [one] fun R => R ((m1 : Int) - 1)) (RX_sz u1 (by omega) [0] fun R => R other) (by decide) (by decide) (by decide) (S.set n o7 ++ [.lst [.lst (P0.map Tie.d), .lst (P1.map Tie.d)]])
  have nA := (nm_get pm (a := one) (by omega) (by omega) []).2
  have nB := (nm_get pm (a := other + ((m1 : Int) - 1)) (by omega) (by omega) []).2
  have aA := nm_at pm (a := one) (by omega) (by omega)
  have aB := nm_at pm (a := other + ((m1 : Int) - 1)) (by omega) (by omega)
  have pr := pair_ok (one := nmOf ys one) (other := nmOf ys (other + ((m1 : Int) - 1))) NT nA.1 nA.2 nB.1 nB.2 b (S.set n o7 ++ [.lst [.lst (P0.map Tie.d), .lst (P1.map Tie.d)]])
  have law := rowT_law (m1 := m1) (m2 := m2) (by omega) (by omega) g0 g1' (by rw [hm]; exact pm) ps e0 (by omega) f0 f1
  rw [law] at pr
  have sm := same_fr (RX P0 [one] (fun R => R ((m1 : Int) - 1)) * RX P1 [0] fun R => R other) (S.set n o7 ++ [.lst [.lst (P0.map Tie.d), .lst (P1.map Tie.d)]])
  have en : netD many Ts = (.tup [.int many, .tup (Ts.map Tie.d)] : D) := rfl
  rw [en] at pr
  have eT : P0.map Tie.d ++ (P1.map (Tie.sh ((m1 : Int) - 1))).map Tie.d = (rowT m1 P0 P1).map Tie.d := by unfold rowT; rw [List.map_append]
  have lT' : (P0.map Tie.d).length + ((P1.map (Tie.sh ((m1 : Int) - 1))).map Tie.d).length ≤ sizeLine := by rw [sizeLine_eq]; simp; omega
  have lr := lstRg (f := mVar 4) (env := [some (.ref n), some (.d (.bl b)), some (.d (.lst [.int m1, .int m2])), some (.ref S.length), some (.d (.int many)), some (.d (.lst ((rowT m1 P0 P1).map Tie.d))), none, none, none, some (.d (.int ((m1 : Int) - 1))), none, none, none, none, none, none]) (S := S.set n o4 ++ [.lst [.lst (P0.map Tie.d), .lst (P1.map Tie.d)]]) (many := many) (by omega) rfl
  refine ⟨o7, ?_, ?_⟩
  · have gt : ∀ xs S, gTupOf [.d (.lst xs)] S = some (.d (.tup xs), S) := fun _ _ => (rfl : _ = _).trans rfl
    have gsum : ∀ a b S, gIs (fun is => some (.int is.sum)) [.d (.lst [.int a, .int b])] S = some (.d (.int (a + b)), S) := fun a b S => by
      show ((intsD [.int a, .int b]).bind fun is => some (W.d (D.int is.sum), S)) = _
      simp [intsD]
    have r0 := gIx_ref (i := 0) hA
    have r0' := gIx_ref (i := 0) hA7
    have r1' := gIx_ref (i := 1) hA7
    have z2' : 2 ≤ sizeLine := by rw [sizeLine_eq]; decide
    have hls : (S.set n o2).length = S.length := List.length_set
    have mi2 : ∀ xs v0 v1 r A, miSeq (mVar 2) (v0 :: v1 :: some (.d (.lst xs)) :: r) A = some (⟨xs, none⟩, A) := fun _ _ _ _ _ => miSeq_lst rfl
    have tk : (S.set n o7 ++ [Ob.lst [.lst (P0.map Tie.d), .lst (P1.map Tie.d)]]).take S.length = S.set n o7 := by
      rw [List.take_append_of_le_length (by simp), List.take_of_length_le (by simp)]
    rw [hmi] at sh
    generalize fr (RX P0 [one] (fun R => R ((m1 : Int) - 1)) * RX P1 [0] fun R => R other) = fw at *
    generalize fr (RX P0 [one] (fun R => R ((m1 : Int) - 1))) = fa at *
    generalize fr (RX P1 [0] fun R => R other) = fb at *
    generalize fr (RX P0 [one] (AllR m1)) = fc at *
    generalize fr (RX P1 [0] (AllR m2)) = fd at *
    generalize rowD m1 P0 one = rw1 at *
    generalize rowD m2 P1 0 = rw2 at *
    generalize (P1.map (Tie.sh ((m1 : Int) - 1))).map Tie.d = P1s at *
    generalize ((rowT m1 P0 P1).map (Tie.ren (nmOf ys))).map Tie.d = Tr at *
    generalize (rowT m1 P0 P1).map Tie.d = Td at *
    generalize Ts.map Tie.d = Tsd at *
    generalize P0.map Tie.d = P0d at *
    generalize P1.map Tie.d = P1d at *
    generalize nmOf ys one = na at *
    generalize nmOf ys (other + ((m1 : Int) - 1)) = nb at *
    generalize ys.map D.int = yd at *
    simp -implicitDefEqProofs [m__law_row_right, runDef, row_right_is, startE, sz2, z2', t1, t2, h1, h2, newL, hls, mi2, MW.forM, wk_none, t3, t4, ap1, ap2, ty0, ty1, gsum, r0, sh, eT, lT', hmi, lr, t5, rn, ss, gt, t6, t7, q1, q2, gr1, gr2, r0', r1', ml, aA, aB, pr, sm, fin, tk]
  · exact (k7.of_app (by simpa using hn)).mono (by omega)
end K50
end
section
set_option maxRecDepth 100000
namespace K50
open PySem L2 MW
def bWay : MS := (sSeq (sAsg (mCall m__law_net (mCons (mVar 2) (mCons (mVar 4) mNil))) (mgTup 3 (mgCons (mgName 5) (mgCons (mgName 6) (mgCons (mgName 7) mgNil)))))
  (sSeq (sIf (mNot (mTest (mCall m__law_net_right (mCons (mVar 2) (mCons (mVar 5) (mCons (mVar 6) (mCons (mVar 3) mNil))))))) (sRet (mC (.bl false))) sNil)
  (sAsg (mNotV (mVar 3)) (mgName 3))))
def bTurn : MS := (sSeq (sAsg (mCall m__law_box (mCons (mCall m__law_cell (mCons (mVar 0) (mCons (mVar 1) mNil))) mNil)) (mgName 2))
  (sSeq (sAsg (mBin (gEq) (mCall m__law_take (mCons (mVar 2) (mCons (mC (.int 2)) mNil))) (mC (.int 0))) (mgName 3))
  (sSeq (sFor (miSeq (mSl .pure (mCall m__law_mixed (mCons (mVar 2) (mCons (mList .pure (mCons (mC (.int 0)) (mCons (mC (.int 1)) (mCons (mC (.int 2)) (mCons (mC (.int 3)) (mCons (mC (.int 4)) mNil)))))) mNil))) mNo (mSo (mC (.int 1))))) (mgName 4) bWay)
  (sIf (mOr (mNot (mTest (mCall m__law_line_right (mCons (mVar 2) (mCons (mVar 3) mNil))))) (mNot (mTest (mCall m__law_row_right (mCons (mVar 2) (mCons (mNotV (mVar 3)) mNil)))))) (sRet (mC (.bl false))) sNil))))
theorem law_is : b_law = (sSeq (sFor (miRange1 (mCons (mCall (gMax2) (mCons (mC (.int 2)) (mCons (mCall (gMin2) (mCons (mC (.int 3)) (mCons (mCall gLen (mCons (mVar 0) mNil)) mNil))) mNil))) mNil)) (mgName 1) bTurn)
  (sRet (mC (.bl true)))) := rfl
theorem s1' (A : Sto) (a c : Ob) : (A ++ [a]).set A.length c = A ++ [c] := s1 _ _ _ rfl
theorem way_exec {S : Sto} {n c : Nat} {w : Int} (hB : Bx S n c) (hc : c + 5000 < 1000000) (h0 : 0 ≤ w) (h1 : w < 5) (b : Bool) (v0 v1 v5 v6 v7 : Option W) : ∃ v5' v6' v7' o, bWay [v0, v1, some (.ref n), some (.d (.bl b)), some (.d (.int w)), v5, v6, v7] S =
    some (.nx [v0, v1, some (.ref n), some (.d (.bl !b)), some (.d (.int w)), v5', v6', v7'] (S.set n o)) ∧ Bx (S.set n o) n (c + 2000) := by
  obtain ⟨many, T, ys, o1, q1, m2, m10, l12, gT, k1⟩ := law_net_ok hB (by omega) h0 h1
  obtain ⟨o2, q2, k2⟩ := net_right_ok k1 (by omega) (by omega) m10 l12 (fun t ht => (gT t ht).ok) b
  rw [set_set] at q2 k2
  refine ⟨some (.d (.int many)), some (.d (.lst (T.map Tie.d))), some (.d (.lst (ys.map D.int))), o2, ?_, k2.mono (by omega)⟩
  generalize T.map Tie.d = Td at *
  generalize ys.map D.int = yd at *
  simp -implicitDefEqProofs [bWay, q1, q2]
theorem turn_exec (ns : List Int) (k : Nat) (hk : k < 64) (T : Sto) (v2 v3 v4 v5 v6 v7 : Option W) : ∃ w2 w3 w4 w5 w6 w7 o, bTurn [some (.scr ns), some (.d (.int k)), v2, v3, v4, v5, v6, v7] T = some (.nx [some (.scr ns), some (.d (.int k)), w2, w3, w4, w5, w6, w7] (T ++ [o])) := by
  obtain ⟨i, c1⟩ := cell_ok ns k hk T
  obtain ⟨o0, c2, B0⟩ := box_ok i T
  obtain ⟨r, o1, t1, t2, t3, B1⟩ := take_ok B0 (by decide) (many := 2) (by decide) (by decide)
  rw [s1'] at t1 B1
  obtain ⟨ys, o2, u1, u2, B2⟩ := some_ok B1 (by decide) (many := 5) (by decide)
  rw [s1'] at u1 B2
  have e5 : upFrom 0 5 = [.int 0, .int 1, .int 2, .int 3, .int 4] := rfl
  rw [e5] at u1
  obtain ⟨w, rest, rfl⟩ : ∃ w rest, ys = w :: rest := by
    have := u2.length_eq
    cases ys with
    | nil => simp at this
    | cons a r => exact ⟨a, r, rfl⟩
  have hw := below_of u2 (x := w) List.mem_cons_self
  obtain ⟨x5, x6, x7, o3, f1, B3⟩ := way_exec B2 (by decide) hw.1 (by have := hw.2; omega) (decide (r = 0)) (some (.scr ns)) (some (.d (.int k))) v5 v6 v7
  rw [s1'] at f1 B3
  obtain ⟨o4, g1, B4⟩ := line_right_ok B3 (by decide) (!decide (r = 0))
  rw [s1'] at g1 B4
  obtain ⟨o5, g2, B5⟩ := row_right_ok B4 (by decide) (decide (r = 0))
  rw [s1'] at g2 B5
  refine ⟨some (.ref T.length), some (.d (.bl (!decide (r = 0)))), some (.d (.int w)), x5, x6, x7, o5, ?_⟩
  have z5 : 5 ≤ sizeLine := by rw [sizeLine_eq]; decide
  have mi : ∀ v0 v1 v3 r, miSeq (mSl .pure (mCall m__law_mixed (mCons (mVar 2) (mCons (mList .pure (mCons (mC (.int 0)) (mCons (mC (.int 1)) (mCons (mC (.int 2)) (mCons (mC (.int 3)) (mCons (mC (.int 4)) mNil)))))) mNil))) mNo (mSo (mC (.int 1)))) (v0 :: v1 :: some (.ref T.length) :: v3 :: r) (T ++ [o1]) = some (⟨[.int w], none⟩, T ++ [o2]) := fun v0 v1 v3 r => by
    refine miSeq_lst ?_
    simp -implicitDefEqProofs [z5, u1, gSl_lst, cut1]
  simp -implicitDefEqProofs [bTurn, c1, c2, t1, mi, MW.forM, wk_none, f1, g1, g2]
theorem law_true (ns : List Int) (hns : ns.length ≤ 63) : ∃ S, m_law [.scr ns] [] = some (.d (.bl true), S) := by
  obtain ⟨M, hM, h3⟩ : ∃ M : Nat, max (2 : Int) (min 3 (ns.length : Int)) = M ∧ M ≤ 3 := ⟨(max (2 : Int) (min 3 (ns.length : Int))).toNat, by omega, by omega⟩
  have hr : (M : Int) < 4611686018427387904 := by omega
  obtain ⟨e', S', f1, _⟩ := forR_ok (k := ⟨upFrom 0 M, none⟩) (g := mgName 1) (b := bTurn) (N := M) (fun _ env _ => ∃ v1 v2 v3 v4 v5 v6 v7 : Option W, env = [some (.scr ns), v1, v2, v3, v4, v5, v6, v7]) (fun _ _ _ _ => rfl)
    (fun i hi env T ⟨v1, v2, v3, v4, v5, v6, v7, e⟩ => by
      subst e
      obtain ⟨w2, w3, w4, w5, w6, w7, o, q⟩ := turn_exec ns i (by omega) T v2 v3 v4 v5 v6 v7
      exact ⟨_, T, _, _, rfl, q, some (.d (.int i)), w2, w3, w4, w5, w6, w7, rfl⟩) (env := [some (.scr ns), none, none, none, none, none, none, none]) (S := []) ⟨none, none, none, none, none, none, none, rfl⟩
  exact ⟨_, by simp -implicitDefEqProofs [m_law, runDef, law_is, startE, miRange1, gLen_scr, hM, hr, f1, fin]; rfl⟩
end K50
end
open PySem PySem.W PyProof.Rows
set_option maxRecDepth 100000 in
set_option maxHeartbeats 0 in
theorem PySem.Challenge.cw_relywide_k50_one_way_nets_turned_round_holds : PySem.Challenge.rw_relywide_k50_one_way_nets_turned_round.Holds := by
  w_on; o_law; k_head; (case hw => w_witness2)
  k_fill
  refine MW.law_end (l := PySem.Challenge.rw_relywide_k50_one_way_nets_turned_round) (st := K50.s_law) (F := K50.m_law) (k := 10) rfl rfl ⟨rfl, by decide, by decide⟩ (fun w h Y => PySem.W.kIn_of Y) rfl (fun _ _ _ _ _ _ us hl => match us, hl with | [_], _ => rfl) (fun w mg h KX G => ?F) K50.law_true
  case F =>
    refine K50.end_ok ?T
    constructor
    · refine' MW.defT KX G ?a ?l ?c ?k; (case a => k_is); (case l => k_is); (case c => k_is); (case k => k_is)
    · refine' MW.defT KX G ?a ?l ?c ?k; (case a => k_is); (case l => k_is); (case c => k_is); (case k => k_is)
    · refine' MW.defT KX G ?a ?l ?c ?k; (case a => k_is); (case l => k_is); (case c => k_is); (case k => k_is)
    · refine' MW.defT KX G ?a ?l ?c ?k; (case a => k_is); (case l => k_is); (case c => k_is); (case k => k_is)
    · refine' MW.defT KX G ?a ?l ?c ?k; (case a => k_is); (case l => k_is); (case c => k_is); (case k => k_is)
    · refine' MW.defT KX G ?a ?l ?c ?k; (case a => k_is); (case l => k_is); (case c => k_is); (case k => k_is)
    · refine' MW.defT KX G ?a ?l ?c ?k; (case a => k_is); (case l => k_is); (case c => k_is); (case k => k_is)
    · refine' MW.defT KX G ?a ?l ?c ?k; (case a => k_is); (case l => k_is); (case c => k_is); (case k => k_is)
    · refine' MW.defT KX G ?a ?l ?c ?k; (case a => k_is); (case l => k_is); (case c => k_is); (case k => k_is)
    · refine' MW.defT KX G ?a ?l ?c ?k; (case a => k_is); (case l => k_is); (case c => k_is); (case k => k_is)
    · refine' MW.defT KX G ?a ?l ?c ?k; (case a => k_is); (case l => k_is); (case c => k_is); (case k => k_is)
    · refine' MW.defT KX G ?a ?l ?c ?k; (case a => k_is); (case l => k_is); (case c => k_is); (case k => k_is)
    · refine' MW.defT KX G ?a ?l ?c ?k; (case a => k_is); (case l => k_is); (case c => k_is); (case k => k_is)
    · refine' MW.defT KX G ?a ?l ?c ?k; (case a => k_is); (case l => k_is); (case c => k_is); (case k => k_is)
    · refine' MW.defT KX G ?a ?l ?c ?k; (case a => k_is); (case l => k_is); (case c => k_is); (case k => k_is)
    · refine' MW.defT KX G ?a ?l ?c ?k; (case a => k_is); (case l => k_is); (case c => k_is); (case k => k_is)
    · refine' MW.defT KX G ?a ?l ?c ?k; (case a => k_is); (case l => k_is); (case c => k_is); (case k => k_is)
    · refine' MW.defT KX G ?a ?l ?c ?k; (case a => k_is); (case l => k_is); (case c => k_is); (case k => k_is)
    · refine' MW.defT KX G ?a ?l ?c ?k; (case a => k_is); (case l => k_is); (case c => k_is); (case k => k_is)
    · refine' MW.defT KX G ?a ?l ?c ?k; (case a => k_is); (case l => k_is); (case c => k_is); (case k => k_is)
    · refine' MW.defT KX G ?a ?l ?c ?k; (case a => k_is); (case l => k_is); (case c => k_is); (case k => k_is)
    · refine' MW.defT KX G ?a ?l ?c ?k; (case a => k_is); (case l => k_is); (case c => k_is); (case k => k_is)
    · refine' MW.defT KX G ?a ?l ?c ?k; (case a => k_is); (case l => k_is); (case c => k_is); (case k => k_is)
    · refine' MW.defT KX G ?a ?l ?c ?k; (case a => k_is); (case l => k_is); (case c => k_is); (case k => k_is)
    · refine' MW.defT KX G ?a ?l ?c ?k; (case a => k_is); (case l => k_is); (case c => k_is); (case k => k_is)
    · refine' MW.defT KX G ?a ?l ?c ?k; (case a => k_is); (case l => k_is); (case c => k_is); (case k => k_is)
    · refine' MW.defT KX G ?a ?l ?c ?k; (case a => k_is); (case l => k_is); (case c => k_is); (case k => k_is)
    · refine' MW.defT KX G ?a ?l ?c ?k; (case a => k_is); (case l => k_is); (case c => k_is); (case k => k_is)
    · refine' MW.defT KX G ?a ?l ?c ?k; (case a => k_is); (case l => k_is); (case c => k_is); (case k => k_is)
    · refine' MW.defT KX G ?a ?l ?c ?k; (case a => k_is); (case l => k_is); (case c => k_is); (case k => k_is)
    · refine' MW.defT KX G ?a ?l ?c ?k; (case a => k_is); (case l => k_is); (case c => k_is); (case k => k_is)
    · refine' MW.defT KX G ?a ?l ?c ?k; (case a => k_is); (case l => k_is); (case c => k_is); (case k => k_is)
    · refine' MW.defT KX G ?a ?l ?c ?k; (case a => k_is); (case l => k_is); (case c => k_is); (case k => k_is)
    · refine' MW.defT KX G ?a ?l ?c ?k; (case a => k_is); (case l => k_is); (case c => k_is); (case k => k_is)
    · refine' MW.defT KX G ?a ?l ?c ?k; (case a => k_is); (case l => k_is); (case c => k_is); (case k => k_is)
    · refine' MW.defT KX G ?a ?l ?c ?k; (case a => k_is); (case l => k_is); (case c => k_is); (case k => k_is)
    · refine' MW.defT KX G ?a ?l ?c ?k; (case a => k_is); (case l => k_is); (case c => k_is); (case k => k_is)
    · refine' MW.defT KX G ?a ?l ?c ?k; (case a => k_is); (case l => k_is); (case c => k_is); (case k => k_is)
    · refine' MW.defT KX G ?a ?l ?c ?k; (case a => k_is); (case l => k_is); (case c => k_is); (case k => k_is)
    · refine' MW.defT KX G ?a ?l ?c ?k; (case a => k_is); (case l => k_is); (case c => k_is); (case k => k_is)
    · refine' MW.defT KX G ?a ?l ?c ?k; (case a => k_is); (case l => k_is); (case c => k_is); (case k => k_is)
    · refine' MW.defT KX G ?a ?l ?c ?k; (case a => k_is); (case l => k_is); (case c => k_is); (case k => k_is)
    · refine' MW.defT KX G ?a ?l ?c ?k; (case a => k_is); (case l => k_is); (case c => k_is); (case k => k_is)
    · refine' PySem.W.mg_none_of KX G ?z; (case z => k_is)
    · refine' PySem.W.mg_none_of KX G ?z; (case z => k_is)
    · refine' PySem.W.mg_none_of KX G ?z; (case z => k_is)
    · refine' PySem.W.mg_none_of KX G ?z; (case z => k_is)
    · refine' PySem.W.mg_none_of KX G ?z; (case z => k_is)
    · refine' PySem.W.mg_none_of KX G ?z; (case z => k_is)
    · refine' PySem.W.mg_none_of KX G ?z; (case z => k_is)
    · refine' PySem.W.mg_none_of KX G ?z; (case z => k_is)
    · refine' PySem.W.mg_none_of KX G ?z; (case z => k_is)
    · refine' PySem.W.mg_none_of KX G ?z; (case z => k_is)
    · refine' PySem.W.mg_none_of KX G ?z; (case z => k_is)
    · refine' PySem.W.mg_none_of KX G ?z; (case z => k_is)
    · refine' PySem.W.mg_none_of KX G ?z; (case z => k_is)
    · refine' PySem.W.mg_none_of KX G ?z; (case z => k_is)
    · refine' MW.gc_tup KX G ?a ?l ?c; (case a => k_is); (case l => k_is); (case c => decide +kernel)
    · refine' MW.gc_int KX G ?a; (case a => k_is)
    · refine' MW.gc_int KX G ?a; (case a => k_is)
    · refine' MW.gc_tup KX G ?a ?l ?c; (case a => k_is); (case l => k_is); (case c => decide +kernel)
