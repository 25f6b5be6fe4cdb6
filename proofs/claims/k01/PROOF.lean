import PyProof.Rows.All
import Wide.All
import OpenK.AllK
import Wide.FinOn
import HandS.ForMost
import HandS.Wide
import HandS.TupLe
import HandS.TupAny
import HandS.TupMul
import HandS.IsInst
import HandS.WideBits
import HandS.Style
import HandS.Zip
import PySem.Challenge.RW_relywide_k01_fractions_of_many_digits
set_option Elab.async false
set_option linter.all false
set_option maxRecDepth 100000
section
set_option maxRecDepth 100000
/-! MW, part a: data D, slot values W, the own store Sto, and how they stand to the layer's values and abstract heaps. -/
namespace MW
open PySem PySem.Spec L2

/-- plain data: never changes -/
inductive D where
  | non | bl (b : Bool) | int (i : Int) | str (x : Str) | tup (xs : List D) | lst (xs : List D)
/-- what a slot holds: data, the script, or the own store's n-th list -/
inductive W where
  | d (x : D) | scr (xs : List Int) | ref (n : Nat)
/-- an object of the own store: a list that may change; or a list that has been given away -/
inductive Ob where
  | dead | lst (xs : List D)
abbrev Sto := List Ob
abbrev Env := List (Option W)
abbrev ME := Env → Sto → Option (W × Sto)
abbrev MB := Env → Sto → Option (Bool × Sto)
abbrev MA := Env → Sto → Option (List W × Sto)
inductive Fl where
  | nx (e : Env) (S : Sto) | rt (w : W) (S : Sto) | bk (e : Env) (S : Sto) | ct (e : Env) (S : Sto)
abbrev MS := Env → Sto → Option Fl

section
/-- where the own store's lists stand, and which lists are another one's -/
structure Mp where
  l : List (Option Addr)
  N : Addr → Prop
/-- a list there is nobody's: it never changes -/
def Mp.out (m : Mp) (a : Addr) : Prop := some a ∉ m.l ∧ ¬ m.N a
variable (K : PySem.W.Frag) (H : Hp) (m : Mp)
/-- a list that nobody can change: frozen, or of the module -/
def Fz (K : PySem.W.Frag) (H : Hp) (a : Addr) (xs : List V) : Prop :=
  (∃ o, H a = some (.frz o (.lst xs))) ∨ ∃ (o : Obj) (its : Array Value) (n : Nat), K.lookup a = some o ∧ o.cls = .type "list" ∧ o.dict = none ∧ o.data = .seq its n ∧ its.size ≤ sizeLine ∧ Vals xs its.toList
mutual
def DR : D → V → Prop
  | .non, v => v = .non
  | .bl b, v => v = .bl b
  | .int i, v => v = .int i
  | .str x, v => v = .str x
  | .tup ws, v => ∃ a xs, v = .ref a ∧ SqT K H a xs ∧ DRs ws xs
  | .lst ws, v => ∃ a xs, v = .ref a ∧ H a = some (.lst xs) ∧ m.out a ∧ DRs ws xs
def DRs : List D → List V → Prop
  | [], vs => vs = []
  | w :: ws, vs => ∃ v vs', vs = v :: vs' ∧ DR w v ∧ DRs ws vs'
end
def WR : W → V → Prop
  | .d x, v => DR K H m x v
  | .scr ns, v => ∃ a, v = .ref a ∧ Fz K H a (ns.map V.int)
  | .ref n, v => n < m.l.length ∧ ∀ a, m.l[n]? = some (some a) → v = .ref a
def WRs : List W → List V → Prop
  | [], vs => vs = []
  | w :: ws, vs => ∃ v vs', vs = v :: vs' ∧ WR K H m w v ∧ WRs ws vs'
def ObR : Ob → Option Addr → Prop
  | .dead, o => o = none
  | .lst ws, o => ∃ a xs, o = some a ∧ H a = some (.lst xs) ∧ DRs K H m ws xs
structure Rel (S : Sto) : Prop where
  len : S.length = m.l.length
  nd : ∀ (i j : Nat) (a : Addr), m.l[i]? = some (some a) → m.l[j]? = some (some a) → i = j
  ob : ∀ (n : Nat) (o : Ob) (a : Option Addr), S[n]? = some o → m.l[n]? = some a → ObR K H m o a
  no : ∀ a, some a ∈ m.l → ¬ m.N a
  nl : ∀ a, m.N a → ∃ xs, H a = some (.lst xs)
structure ER (env : Env) (σ : St) : Prop where
  len : env.length = σ.length
  val : ∀ (i : Nat) (w : W), env[i]? = some (some w) → ∃ v, σ[i]? = some (some v) ∧ WR K H m w v
end
structure Gr (K : PySem.W.Frag) (H : Hp) (m : Mp) (H' : Hp) (m' : Mp) : Prop where
  tup : ∀ a xs, SqT K H a xs → SqT K H' a xs
  lst : ∀ a xs, H a = some (.lst xs) → m.out a → H' a = some (.lst xs) ∧ m'.out a
  fz : ∀ a xs, Fz K H a xs → Fz K H' a xs
  ln : m.l.length ≤ m'.l.length
  pre : ∀ (n : Nat) (a : Addr), n < m.l.length → m'.l[n]? = some (some a) → m.l[n]? = some (some a)
  sub : ∀ a, m.N a → m'.N a
  prot : ∀ a xs, H a = some (.lst xs) → m.N a → H' a = some (.lst xs)
section
variable {K : PySem.W.Frag} {H H1 H2 : Hp} {m m1 m2 : Mp} {S : Sto}
theorem Gr.refl : Gr K H m H m := ⟨fun _ _ h => h, fun _ _ h k => ⟨h, k⟩, fun _ _ h => h, Nat.le_refl _, fun _ _ _ h => h, fun _ h => h, fun _ _ h _ => h⟩
theorem Gr.trans (a : Gr K H m H1 m1) (b : Gr K H1 m1 H2 m2) : Gr K H m H2 m2 :=
  ⟨fun x xs h => b.tup x xs (a.tup x xs h), fun x xs h k => b.lst x xs (a.lst x xs h k).1 (a.lst x xs h k).2, fun x xs h => b.fz x xs (a.fz x xs h), Nat.le_trans a.ln b.ln,
    fun n x hn h => a.pre n x hn (b.pre n x (Nat.lt_of_lt_of_le hn a.ln) h), fun x h => b.sub x (a.sub x h), fun x xs h k => b.prot x xs (a.prot x xs h k) (a.sub x k)⟩
mutual
theorem DR.mv (ht : ∀ a xs, SqT K H a xs → SqT K H1 a xs) (hl : ∀ a xs, H a = some (.lst xs) → m.out a → H1 a = some (.lst xs) ∧ m1.out a) : ∀ {w : D} {v : V}, DR K H m w v → DR K H1 m1 w v
  | .non, _, h => h
  | .bl _, _, h => h
  | .int _, _, h => h
  | .str _, _, h => h
  | .tup ws, v, h => by
    unfold DR at h ⊢
    obtain ⟨a, xs, e, h1, h2⟩ := h
    exact ⟨a, xs, e, ht a xs h1, DRs.mv ht hl h2⟩
  | .lst ws, v, h => by
    unfold DR at h ⊢
    obtain ⟨a, xs, e, h1, h2, h3⟩ := h
    exact ⟨a, xs, e, (hl a xs h1 h2).1, (hl a xs h1 h2).2, DRs.mv ht hl h3⟩
theorem DRs.mv (ht : ∀ a xs, SqT K H a xs → SqT K H1 a xs) (hl : ∀ a xs, H a = some (.lst xs) → m.out a → H1 a = some (.lst xs) ∧ m1.out a) : ∀ {ws : List D} {vs : List V}, DRs K H m ws vs → DRs K H1 m1 ws vs
  | [], _, h => h
  | w :: ws, vs, h => by
    unfold DRs at h ⊢
    obtain ⟨v, vs', e, h1, h2⟩ := h
    exact ⟨v, vs', e, DR.mv ht hl h1, DRs.mv ht hl h2⟩
end
theorem DR.gr (g : Gr K H m H1 m1) {w : D} {v : V} (h : DR K H m w v) : DR K H1 m1 w v := DR.mv g.tup g.lst h
theorem DRs.gr (g : Gr K H m H1 m1) {ws : List D} {vs : List V} (h : DRs K H m ws vs) : DRs K H1 m1 ws vs := DRs.mv g.tup g.lst h
theorem WR.gr (g : Gr K H m H1 m1) : ∀ {w : W} {v : V}, WR K H m w v → WR K H1 m1 w v
  | .d x, _, h => DR.gr g h
  | .scr ns, v, h => by
    obtain ⟨a, e, h1⟩ := h
    exact ⟨a, e, g.fz a _ h1⟩
  | .ref n, v, h => ⟨Nat.lt_of_lt_of_le h.1 g.ln, fun a e => h.2 a (g.pre n a h.1 e)⟩
theorem WRs.gr (g : Gr K H m H1 m1) : ∀ {ws : List W} {vs : List V}, WRs K H m ws vs → WRs K H1 m1 ws vs
  | [], _, h => h
  | w :: ws, vs, h => by
    obtain ⟨v, vs', e, h1, h2⟩ := h
    exact ⟨v, vs', e, WR.gr g h1, WRs.gr g h2⟩
theorem ER.gr {env : Env} {σ : St} (g : Gr K H m H1 m1) (h : ER K H m env σ) : ER K H1 m1 env σ :=
  ⟨h.len, fun i w e => let ⟨v, e1, r⟩ := h.val i w e; ⟨v, e1, r.gr g⟩⟩
theorem ObR.gr (g : Gr K H m H1 m1) {o : Ob} {a : Option Addr} (h : ObR K H m o a) (k : ∀ b xs, a = some b → H b = some (.lst xs) → H1 b = some (.lst xs)) : ObR K H1 m1 o a := by
  cases o with
  | dead => exact h
  | lst ws =>
    obtain ⟨b, xs, e, h1, h2⟩ := h
    exact ⟨b, xs, e, k b xs e h1, DRs.gr g h2⟩
theorem DRs.length : ∀ {ws : List D} {vs : List V}, DRs K H m ws vs → vs.length = ws.length
  | [], _, h => by unfold DRs at h; subst h; rfl
  | w :: ws, vs, h => by
    unfold DRs at h
    obtain ⟨v, vs', rfl, _, h2⟩ := h
    simp [DRs.length h2]
theorem DRs.get : ∀ {ws : List D} {vs : List V} {i : Nat} {w : D}, DRs K H m ws vs → ws[i]? = some w → ∃ v, vs[i]? = some v ∧ DR K H m w v
  | [], _, _, _, _, e => by simp at e
  | w :: ws, vs, 0, x, h, e => by
    unfold DRs at h
    obtain ⟨v, vs', rfl, h1, h2⟩ := h
    simp at e; subst e
    exact ⟨v, rfl, h1⟩
  | w :: ws, vs, i + 1, x, h, e => by
    unfold DRs at h
    obtain ⟨v, vs', rfl, h1, h2⟩ := h
    obtain ⟨u, e1, r⟩ := DRs.get (i := i) h2 (by simpa using e)
    exact ⟨u, by simpa using e1, r⟩
theorem DRs.getV : ∀ {ws : List D} {vs : List V} {i : Nat} {v : V}, DRs K H m ws vs → vs[i]? = some v → ∃ w, ws[i]? = some w ∧ DR K H m w v
  | [], _, _, _, h, e => by unfold DRs at h; subst h; simp at e
  | w :: ws, vs, 0, x, h, e => by
    unfold DRs at h
    obtain ⟨v, vs', rfl, h1, h2⟩ := h
    simp at e; subst e
    exact ⟨w, rfl, h1⟩
  | w :: ws, vs, i + 1, x, h, e => by
    unfold DRs at h
    obtain ⟨v, vs', rfl, h1, h2⟩ := h
    obtain ⟨u, e1, r⟩ := DRs.getV (i := i) h2 (by simpa using e)
    exact ⟨u, by simpa using e1, r⟩
theorem DRs.append : ∀ {ws us : List D} {xs ys : List V}, DRs K H m ws xs → DRs K H m us ys → DRs K H m (ws ++ us) (xs ++ ys)
  | [], _, _, _, h, k => by unfold DRs at h; subst h; exact k
  | w :: ws, _, _, _, h, k => by
    unfold DRs at h
    obtain ⟨v, vs', rfl, h1, h2⟩ := h
    show DRs K H m (w :: (ws ++ _)) _
    unfold DRs
    exact ⟨v, _, rfl, h1, DRs.append h2 k⟩
theorem DRs.one {w : D} {v : V} (h : DR K H m w v) : DRs K H m [w] [v] := by
  unfold DRs
  exact ⟨v, [], rfl, h, rfl⟩
theorem DRs.cons {w : D} {v : V} {ws : List D} {vs : List V} (h : DR K H m w v) (k : DRs K H m ws vs) : DRs K H m (w :: ws) (v :: vs) := by
  unfold DRs
  exact ⟨v, vs, rfl, h, k⟩
theorem DRs.nil : DRs K H m [] [] := rfl
theorem DRs.take (n : Nat) : ∀ {ws : List D} {vs : List V}, DRs K H m ws vs → DRs K H m (ws.take n) (vs.take n) := by
  induction n with
  | zero => intro ws vs _; simp; exact DRs.nil
  | succ n ih =>
    intro ws vs h
    cases ws with
    | nil => unfold DRs at h; subst h; exact DRs.nil
    | cons w ws =>
      unfold DRs at h
      obtain ⟨v, vs', rfl, h1, h2⟩ := h
      exact DRs.cons h1 (ih h2)
theorem DRs.drop (n : Nat) : ∀ {ws : List D} {vs : List V}, DRs K H m ws vs → DRs K H m (ws.drop n) (vs.drop n) := by
  induction n with
  | zero => intro ws vs h; exact h
  | succ n ih =>
    intro ws vs h
    cases ws with
    | nil => unfold DRs at h; subst h; exact DRs.nil
    | cons w ws =>
      unfold DRs at h
      obtain ⟨v, vs', rfl, h1, h2⟩ := h
      exact ih h2
theorem DRs.set : ∀ {ws : List D} {vs : List V} {w : D} {v : V} (i : Nat), DRs K H m ws vs → DR K H m w v → DRs K H m (ws.set i w) (vs.set i v)
  | [], _, _, _, _, h, _ => by unfold DRs at h; subst h; exact DRs.nil
  | w :: ws, vs, x, u, 0, h, k => by
    unfold DRs at h
    obtain ⟨v, vs', rfl, h1, h2⟩ := h
    exact DRs.cons k h2
  | w :: ws, vs, x, u, i + 1, h, k => by
    unfold DRs at h
    obtain ⟨v, vs', rfl, h1, h2⟩ := h
    exact DRs.cons h1 (DRs.set i h2 k)
theorem DRs.erase : ∀ {ws : List D} {vs : List V} (i : Nat), DRs K H m ws vs → DRs K H m (ws.eraseIdx i) (vs.eraseIdx i)
  | [], _, _, h => by unfold DRs at h; subst h; exact DRs.nil
  | w :: ws, vs, 0, h => by
    unfold DRs at h
    obtain ⟨v, vs', rfl, h1, h2⟩ := h
    exact h2
  | w :: ws, vs, i + 1, h => by
    unfold DRs at h
    obtain ⟨v, vs', rfl, h1, h2⟩ := h
    exact DRs.cons h1 (DRs.erase i h2)
theorem DRs.ints {ns : List Int} : ∀ {vs : List V}, DRs K H m (ns.map D.int) vs ↔ vs = ns.map V.int := by
  induction ns with
  | nil => intro vs; exact Iff.rfl
  | cons n ns ih =>
    intro vs
    constructor
    · intro h
      simp only [List.map_cons] at h
      unfold DRs at h
      obtain ⟨v, vs', rfl, h1, h2⟩ := h
      unfold DR at h1
      subst h1
      rw [ih.mp h2]; rfl
    · rintro rfl
      exact DRs.cons (by unfold DR; rfl) (ih.mpr rfl)
theorem Rel.live (r : Rel K H m S) {n : Nat} {a : Addr} (h : m.l[n]? = some (some a)) : ∃ ws xs, S[n]? = some (.lst ws) ∧ H a = some (.lst xs) ∧ DRs K H m ws xs := by
  have hn : n < S.length := by rw [r.len]; exact (List.getElem?_eq_some_iff.mp h).1
  obtain ⟨o, ho⟩ : ∃ o, S[n]? = some o := ⟨S[n], by simp [hn]⟩
  have q := r.ob n o _ ho h
  cases o with
  | dead => cases q
  | lst ws =>
    obtain ⟨b, xs, e, h1, h2⟩ := q
    cases e
    exact ⟨ws, xs, ho, h1, h2⟩
theorem Rel.mem (r : Rel K H m S) {a : Addr} (h : some a ∈ m.l) : ∃ xs, H a = some (.lst xs) := by
  obtain ⟨n, hn, e⟩ := List.mem_iff_getElem.mp h
  obtain ⟨_, xs, _, q, _⟩ := r.live (n := n) (a := a) (by simp [hn, e])
  exact ⟨xs, q⟩
theorem Rel.free (r : Rel K H m S) {p : Addr} (h : H p = none) : m.out p := by
  refine ⟨fun q => ?_, fun q => ?_⟩
  · obtain ⟨xs, e⟩ := r.mem q
    rw [e] at h
    exact nomatch h
  · obtain ⟨xs, e⟩ := r.nl p q
    rw [e] at h
    exact nomatch h
theorem SqT.fresh {a p : Addr} {xs : List V} {o : HO} (h : SqT K H a xs) (hp : H p = none) : SqT K (upd H p o) a xs := by
  rcases h with (h | ⟨u, h⟩) | h
  · exact .inl (.inl (by rw [upd_ne (ne_of_none h hp)]; exact h))
  · exact .inl (.inr ⟨u, by rw [upd_ne (ne_of_none h hp)]; exact h⟩)
  · exact .inr h
theorem Fz.fresh {a p : Addr} {xs : List V} {o : HO} (h : Fz K H a xs) (hp : H p = none) : Fz K (upd H p o) a xs := by
  rcases h with ⟨u, h⟩ | h
  · exact .inl ⟨u, by rw [upd_ne (ne_of_none h hp)]; exact h⟩
  · exact .inr h
theorem Fz.sq {a : Addr} {xs : List V} (h : Fz K H a xs) : SqL K H a xs := by
  rcases h with ⟨u, h⟩ | h
  · exact .inl (.inr ⟨u, h⟩)
  · exact .inr h
/-- a new object that the own store doesn't track -/
theorem Gr.fresh {p : Addr} {o : HO} (hp : H p = none) : Gr K H m (upd H p o) m :=
  ⟨fun _ _ h => SqT.fresh h hp, fun a xs h k => ⟨by rw [upd_ne (ne_of_none h hp)]; exact h, k⟩, fun _ _ h => Fz.fresh h hp, Nat.le_refl _, fun _ _ _ h => h, fun _ h => h, fun a xs h _ => by rw [upd_ne (ne_of_none h hp)]; exact h⟩
theorem Rel.fresh {p : Addr} {o : HO} (r : Rel K H m S) (hp : H p = none) : Rel K (upd H p o) m S :=
  ⟨r.len, r.nd, fun n ob a h1 h2 => (r.ob n ob a h1 h2).gr (.fresh hp) fun b xs e h => by rw [upd_ne (ne_of_none h hp)]; exact h, r.no, fun a h => let ⟨xs, e⟩ := r.nl a h; ⟨xs, by rw [upd_ne (ne_of_none e hp)]; exact e⟩⟩
def Mp.add (m : Mp) (p : Addr) : Mp := ⟨m.l ++ [some p], m.N⟩
def Mp.kill (m : Mp) (n : Nat) : Mp := ⟨m.l.set n none, m.N⟩
def Mp.take (m : Mp) (n : Nat) : Mp := ⟨m.l.take n, m.N⟩
/-- a new list of the own store -/
theorem gr_alloc {p : Addr} {xs : List V} (r : Rel K H m S) (hp : H p = none) : Gr K H m (upd H p (.lst xs)) (m.add p) :=
  ⟨fun _ _ h => SqT.fresh h hp, fun a xs h k => ⟨by rw [upd_ne (ne_of_none h hp)]; exact h, by
    refine ⟨fun q => ?_, k.2⟩
    rcases List.mem_append.mp q with q | q
    · exact k.1 q
    · have : a = p := by simpa using q
      rw [this, hp] at h; cases h⟩, fun _ _ h => Fz.fresh h hp, by simp [Mp.add], fun n a hn h => by
      unfold Mp.add at h
      dsimp only at h
      rw [List.getElem?_append_left hn] at h; exact h, fun _ h => h, fun a xs h _ => by rw [upd_ne (ne_of_none h hp)]; exact h⟩
theorem Rel.alloc {p : Addr} {xs : List V} {ws : List D} (r : Rel K H m S) (hp : H p = none) (h : DRs K H m ws xs) : Rel K (upd H p (.lst xs)) (m.add p) (S ++ [.lst ws]) := by
  have g := gr_alloc (xs := xs) r hp
  refine ⟨by simp [r.len, Mp.add], fun i j a h1 h2 => ?_, fun n o a h1 h2 => ?_, fun a ha => ?_, fun a ha => let ⟨xs, e⟩ := r.nl a ha; ⟨xs, by rw [upd_ne (ne_of_none e hp)]; exact e⟩⟩
  · have key : ∀ i, (m.add p).l[i]? = some (some a) → m.l[i]? = some (some a) ∨ (i = m.l.length ∧ a = p) := fun i h => by
      unfold Mp.add at h
      dsimp only at h
      by_cases hi : i < m.l.length
      · rw [List.getElem?_append_left hi] at h; exact .inl h
      · rw [List.getElem?_append_right (by omega)] at h
        have hz : i - m.l.length = 0 := by
          have := (List.getElem?_eq_some_iff.mp h).1
          simp at this; omega
        rw [hz] at h
        simp at h
        exact .inr ⟨by omega, h.symm⟩
    rcases key i h1 with k1 | ⟨e1, z1⟩ <;> rcases key j h2 with k2 | ⟨e2, z2⟩
    · exact r.nd i j a k1 k2
    · subst z2
      exact absurd (List.mem_of_getElem? k1) (r.free hp).1
    · subst z1
      exact absurd (List.mem_of_getElem? k2) (r.free hp).1
    · omega
  · unfold Mp.add at h2
    dsimp only at h2
    by_cases hn : n < S.length
    · rw [List.getElem?_append_left hn] at h1
      rw [List.getElem?_append_left (by rw [← r.len]; exact hn)] at h2
      exact (r.ob n o a h1 h2).gr g fun b xs e h => by rw [upd_ne (ne_of_none h hp)]; exact h
    · rw [List.getElem?_append_right (by omega)] at h1
      rw [List.getElem?_append_right (by rw [← r.len]; omega)] at h2
      have hz : n - S.length = 0 := by
        have := (List.getElem?_eq_some_iff.mp h1).1
        simp at this; omega
      have hz2 : n - m.l.length = 0 := by rw [← r.len]; exact hz
      rw [hz] at h1
      rw [hz2] at h2
      simp at h1 h2
      subst h1 h2
      exact ⟨p, xs, rfl, upd_same, DRs.gr g h⟩
  · rcases List.mem_append.mp ha with q | q
    · exact r.no a q
    · have : a = p := by simpa using q
      rw [this]; exact (r.free hp).2
/-- a list of the own store is changed -/
theorem gr_write {n : Nat} {a : Addr} {xs xs' : List V} (r : Rel K H m S) (hn : m.l[n]? = some (some a)) (ha : H a = some (.lst xs)) : Gr K H m (upd H a (.lst xs')) m := by
  refine ⟨fun b ys h => ?_, fun b ys h k => ⟨?_, k⟩, fun b ys h => ?_, Nat.le_refl _, fun _ _ _ h => h, fun _ h => h, fun b ys h k => ?_⟩
  · rcases h with (h | ⟨u, h⟩) | h
    · exact .inl (.inl (by rw [upd_ne (ne_of h ha (by intro z; cases z))]; exact h))
    · exact .inl (.inr ⟨u, by rw [upd_ne (ne_of h ha (by intro z; cases z))]; exact h⟩)
    · exact .inr h
  · have : b ≠ a := by rintro rfl; exact k.1 (List.mem_of_getElem? hn)
    rw [upd_ne this]; exact h
  · rcases h with ⟨u, h⟩ | h
    · exact .inl ⟨u, by rw [upd_ne (ne_of h ha (by intro z; cases z))]; exact h⟩
    · exact .inr h
  · have : b ≠ a := by rintro rfl; exact r.no b (List.mem_of_getElem? hn) k
    rw [upd_ne this]; exact h
theorem Rel.write {n : Nat} {a : Addr} {xs xs' : List V} {ws' : List D} (r : Rel K H m S) (hn : m.l[n]? = some (some a)) (ha : H a = some (.lst xs)) (h : DRs K H m ws' xs') : Rel K (upd H a (.lst xs')) m (S.set n (.lst ws')) := by
  have g := gr_write (xs' := xs') r hn ha
  refine ⟨by simp [r.len], r.nd, fun i o b h1 h2 => ?_, r.no, fun b hb => ?_⟩
  · by_cases hi : i = n
    · subst hi
      have hl : i < S.length := by rw [r.len]; exact (List.getElem?_eq_some_iff.mp hn).1
      rw [List.getElem?_set_self hl] at h1
      rw [hn] at h2
      cases h1; cases h2
      exact ⟨a, xs', rfl, upd_same, DRs.gr g h⟩
    · rw [List.getElem?_set_ne (Ne.symm hi)] at h1
      refine (r.ob i o b h1 h2).gr g fun c ys e q => ?_
      subst e
      have : c ≠ a := by rintro rfl; exact hi (r.nd i n c h2 hn)
      rw [upd_ne this]; exact q
  · obtain ⟨ys, e⟩ := r.nl b hb
    exact ⟨ys, g.prot b ys e hb⟩
/-- a list of the own store is given away: nobody can change it any more -/
theorem gr_move {n : Nat} : Gr K H m H (m.kill n) := by
  refine ⟨fun _ _ h => h, fun b ys h k => ⟨h, fun q => ?_, k.2⟩, fun _ _ h => h, by simp [Mp.kill], fun i b hi h => ?_, fun _ h => h, fun _ _ h _ => h⟩
  · rcases List.mem_or_eq_of_mem_set q with q | q
    · exact k.1 q
    · cases q
  · unfold Mp.kill at h
    dsimp only at h
    by_cases e : n = i
    · subst e
      rw [List.getElem?_set_self hi] at h; cases h
    · rw [List.getElem?_set_ne e] at h; exact h
theorem Rel.move {n : Nat} (r : Rel K H m S) : Rel K H (m.kill n) (S.set n .dead) := by
  refine ⟨by simp [r.len, Mp.kill], fun i j a h1 h2 => ?_, fun i o b h1 h2 => ?_, fun a ha => ?_, r.nl⟩
  · have key : ∀ i, (m.kill n).l[i]? = some (some a) → m.l[i]? = some (some a) := fun i h => by
      unfold Mp.kill at h
      dsimp only at h
      by_cases e : n = i
      · subst e
        have hl : n < m.l.length := by have := (List.getElem?_eq_some_iff.mp h).1; simpa using this
        rw [List.getElem?_set_self hl] at h; cases h
      · rw [List.getElem?_set_ne e] at h; exact h
    exact r.nd i j a (key i h1) (key j h2)
  · unfold Mp.kill at h2
    dsimp only at h2
    by_cases e : n = i
    · subst e
      have hl : n < S.length := by have := (List.getElem?_eq_some_iff.mp h1).1; simpa using this
      rw [List.getElem?_set_self hl] at h1
      rw [List.getElem?_set_self (by rw [← r.len]; exact hl)] at h2
      cases h1; cases h2
      rfl
    · rw [List.getElem?_set_ne e] at h1 h2
      exact (r.ob i o b h1 h2).gr gr_move fun _ _ _ q => q
  · rcases List.mem_or_eq_of_mem_set ha with q | q
    · exact r.no a q
    · cases q
theorem moved {n : Nat} {a : Addr} {xs : List V} {ws : List D} (r : Rel K H m S) (hn : m.l[n]? = some (some a)) (ha : H a = some (.lst xs)) (h : DRs K H m ws xs) : DR K H (m.kill n) (.lst ws) (.ref a) := by
  unfold DR
  refine ⟨a, xs, rfl, ha, ⟨fun q => ?_, r.no a (List.mem_of_getElem? hn)⟩, DRs.gr gr_move h⟩
  obtain ⟨i, hi, e⟩ := List.mem_iff_getElem.mp q
  have e' : (m.l.set n none)[i]? = some (some a) := (List.getElem?_eq_getElem hi).trans (congrArg some e)
  by_cases c : n = i
  · subst c
    have hl : n < m.l.length := by simpa [Mp.kill] using hi
    rw [List.getElem?_set_self hl] at e'; cases e'
  · rw [List.getElem?_set_ne c] at e'
    exact c (r.nd n i a hn e')
mutual
theorem DR.fewer (hm : ∀ a, m.out a → m1.out a) : ∀ {w : D} {v : V}, DR K H m w v → DR K H m1 w v
  | .non, _, h => h
  | .bl _, _, h => h
  | .int _, _, h => h
  | .str _, _, h => h
  | .tup ws, v, h => by
    unfold DR at h ⊢
    obtain ⟨a, xs, e, h1, h2⟩ := h
    exact ⟨a, xs, e, h1, DRs.fewer hm h2⟩
  | .lst ws, v, h => by
    unfold DR at h ⊢
    obtain ⟨a, xs, e, h1, h2, h3⟩ := h
    exact ⟨a, xs, e, h1, hm _ h2, DRs.fewer hm h3⟩
theorem DRs.fewer (hm : ∀ a, m.out a → m1.out a) : ∀ {ws : List D} {vs : List V}, DRs K H m ws vs → DRs K H m1 ws vs
  | [], _, h => h
  | w :: ws, vs, h => by
    unfold DRs at h ⊢
    obtain ⟨v, vs', e, h1, h2⟩ := h
    exact ⟨v, vs', e, DR.fewer hm h1, DRs.fewer hm h2⟩
end
/-- fewer lists are known -/
theorem take_get {α : Type} {l : List α} {k n : Nat} {a : α} (h : (l.take k)[n]? = some a) : l[n]? = some a := by
  rw [List.getElem?_take] at h
  by_cases c : n < k
  · rw [if_pos c] at h; exact h
  · rw [if_neg c] at h; cases h
theorem out_take {k : Nat} {a : Addr} (h : m.out a) : (m.take k).out a := ⟨fun z => h.1 (List.mem_of_mem_take z), h.2⟩
theorem Rel.take {k : Nat} (r : Rel K H m S) : Rel K H (m.take k) (S.take k) := by
  refine ⟨by simp [r.len, Mp.take], fun i j a h1 h2 => r.nd i j a (take_get h1) (take_get h2), fun n o a h1 h2 => ?_, fun a ha => r.no a (List.mem_of_mem_take ha), r.nl⟩
  have q := r.ob n o a (take_get h1) (take_get h2)
  cases o with
  | dead => exact q
  | lst ws =>
    obtain ⟨b, xs, e, q1, q2⟩ := q
    exact ⟨b, xs, e, q1, DRs.fewer (fun c hc => out_take hc) q2⟩
theorem Gr.take {k : Nat} (g : Gr K H m H1 m1) (hk : k = m.l.length) : Gr K H m H1 (m1.take k) := by
  subst hk
  refine ⟨g.tup, fun a xs h q => ⟨(g.lst a xs h q).1, out_take (g.lst a xs h q).2⟩, g.fz, ?_, fun n a hn h => g.pre n a hn (take_get h), g.sub, g.prot⟩
  show _ ≤ (m1.l.take m.l.length).length
  rw [List.length_take, Nat.min_eq_left g.ln]
  exact Nat.le_refl _
/-- a list of the own store that is left behind by `take` -/
theorem left {n k : Nat} {a : Addr} {xs : List V} {ws : List D} (r : Rel K H m S) (hk : k ≤ n) (hn : m.l[n]? = some (some a)) (ha : H a = some (.lst xs)) (h : DRs K H m ws xs) : DR K H (m.take k) (.lst ws) (.ref a) := by
  unfold DR
  refine ⟨a, xs, rfl, ha, ⟨fun q => ?_, r.no a (List.mem_of_getElem? hn)⟩, DRs.fewer (fun _ hc => out_take hc) h⟩
  obtain ⟨i, hi, e⟩ := List.mem_iff_getElem.mp q
  have e' : (m.l.take k)[i]? = some (some a) := (List.getElem?_eq_getElem hi).trans (congrArg some e)
  have c := r.nd n i a hn (take_get e')
  subst c
  have : n < (m.l.take k).length := hi
  rw [List.length_take] at this
  omega
/-! ### a list that is being made: it is nobody's to change meanwhile -/
def Mp.guard (m : Mp) (p : Addr) : Mp := ⟨m.l, fun a => m.N a ∨ a = p⟩
theorem gr_guard {p : Addr} {xs : List V} (r : Rel K H m S) (hp : H p = none) : Gr K H m (upd H p (.lst xs)) (m.guard p) :=
  ⟨fun _ _ h => SqT.fresh h hp, fun a ys h k => ⟨by rw [upd_ne (ne_of_none h hp)]; exact h, k.1, fun z => z.elim k.2 (ne_of_none h hp)⟩, fun _ _ h => Fz.fresh h hp, Nat.le_refl _, fun _ _ _ h => h, fun _ h => .inl h,
    fun a ys h _ => by rw [upd_ne (ne_of_none h hp)]; exact h⟩
theorem Rel.guard {p : Addr} {xs : List V} (r : Rel K H m S) (hp : H p = none) : Rel K (upd H p (.lst xs)) (m.guard p) S := by
  have g := gr_guard (xs := xs) r hp
  refine ⟨r.len, r.nd, fun n o a h1 h2 => (r.ob n o a h1 h2).gr g fun b ys e h => by rw [upd_ne (ne_of_none h hp)]; exact h, fun a h z => ?_, fun a h => ?_⟩
  · rcases z with z | z
    · exact r.no a h z
    · subst z
      exact (r.free hp).1 h
  · rcases h with h | h
    · obtain ⟨ys, e⟩ := r.nl a h
      exact ⟨ys, by rw [upd_ne (ne_of_none e hp)]; exact e⟩
    · subst h
      exact ⟨xs, upd_same⟩
theorem SqT.written {p : Addr} {us us' : List V} (hp : H p = some (.lst us)) {a : Addr} {xs : List V} (h : SqT K H a xs) : SqT K (upd H p (.lst us')) a xs := by
  rcases h with (h | ⟨u, h⟩) | h
  · exact .inl (.inl (by rw [upd_ne (ne_of h hp (by intro z; cases z))]; exact h))
  · exact .inl (.inr ⟨u, by rw [upd_ne (ne_of h hp (by intro z; cases z))]; exact h⟩)
  · exact .inr h
theorem Fz.written {p : Addr} {us us' : List V} (hp : H p = some (.lst us)) {a : Addr} {xs : List V} (h : Fz K H a xs) : Fz K (upd H p (.lst us')) a xs := by
  rcases h with ⟨u, h⟩ | h
  · exact .inl ⟨u, by rw [upd_ne (ne_of h hp (by intro z; cases z))]; exact h⟩
  · exact .inr h
/-- .. it is written -/
theorem lst_guarded {p : Addr} {us : List V} (hN : m.N p) (a : Addr) (xs : List V) (h : H a = some (.lst xs)) (k : m.out a) : upd H p (.lst us) a = some (.lst xs) ∧ m.out a := by
  have : a ≠ p := by rintro rfl; exact k.2 hN
  exact ⟨by rw [upd_ne this]; exact h, k⟩
theorem DRs.guarded {p : Addr} {us us' : List V} (hN : m.N p) (hp : H p = some (.lst us)) {ws : List D} {vs : List V} (h : DRs K H m ws vs) : DRs K (upd H p (.lst us')) m ws vs := DRs.mv (fun _ _ z => SqT.written hp z) (fun a xs z k => lst_guarded hN a xs z k) h
theorem Rel.guarded {p : Addr} {us us' : List V} (r : Rel K H m S) (hN : m.N p) (hp : H p = some (.lst us)) : Rel K (upd H p (.lst us')) m S := by
  refine ⟨r.len, r.nd, fun n o a h1 h2 => ?_, r.no, fun a h => ?_⟩
  · have q := r.ob n o a h1 h2
    cases o with
    | dead => exact q
    | lst ws =>
      obtain ⟨b, xs, rfl, q1, q2⟩ := q
      have : b ≠ p := by rintro rfl; exact r.no b (List.mem_of_getElem? h2) hN
      exact ⟨b, xs, rfl, by rw [upd_ne this]; exact q1, DRs.guarded hN hp q2⟩
  · by_cases c : a = p
    · subst c; exact ⟨us', upd_same⟩
    · obtain ⟨ys, e⟩ := r.nl a h
      exact ⟨ys, by rw [upd_ne c]; exact e⟩
theorem Gr.guarded {p : Addr} {us us' : List V} {H0 : Hp} {m0 : Mp} (g : Gr K H0 m0 H m) (h0 : H0 p = none) (hp : H p = some (.lst us)) : Gr K H0 m0 (upd H p (.lst us')) m :=
  ⟨fun a xs h => SqT.written hp (g.tup a xs h), fun a xs h k => ⟨by rw [upd_ne (ne_of_none h h0)]; exact (g.lst a xs h k).1, (g.lst a xs h k).2⟩, fun a xs h => Fz.written hp (g.fz a xs h), g.ln, g.pre, g.sub,
    fun a xs h k => by rw [upd_ne (ne_of_none h h0)]; exact g.prot a xs h k⟩
/-- .. it is made: N0 are the lists that were another one's before -/
theorem out_un {N0 : Addr → Prop} (hs : ∀ a, N0 a → m.N a) {a : Addr} (h : m.out a) : Mp.out ⟨m.l, N0⟩ a := ⟨h.1, fun z => h.2 (hs a z)⟩
theorem Rel.un {N0 : Addr → Prop} (r : Rel K H m S) (hs : ∀ a, N0 a → m.N a) : Rel K H ⟨m.l, N0⟩ S := by
  refine ⟨r.len, r.nd, fun n o a h1 h2 => ?_, fun a h z => r.no a h (hs a z), fun a h => r.nl a (hs a h)⟩
  have q := r.ob n o a h1 h2
  cases o with
  | dead => exact q
  | lst ws =>
    obtain ⟨b, xs, e, q1, q2⟩ := q
    exact ⟨b, xs, e, q1, DRs.fewer (fun _ z => out_un hs z) q2⟩
theorem Gr.un {H0 : Hp} {m0 : Mp} (g : Gr K H0 m0 H m) : Gr K H0 m0 H ⟨m.l, m0.N⟩ :=
  ⟨g.tup, fun a xs h k => ⟨(g.lst a xs h k).1, (g.lst a xs h k).2.1, k.2⟩, g.fz, g.ln, g.pre, fun _ h => h, g.prot⟩
theorem Gr.unAdd {H0 : Hp} {m0 : Mp} {p : Addr} (g : Gr K H0 m0 H m) (h0 : H0 p = none) : Gr K H0 m0 H ⟨m.l ++ [some p], m0.N⟩ :=
  ⟨g.tup, fun a xs h k => ⟨(g.lst a xs h k).1, fun z => by
    rcases List.mem_append.mp z with z | z
    · exact (g.lst a xs h k).2.1 z
    · have : a = p := by simpa using z
      exact ne_of_none h h0 this, k.2⟩, g.fz, by
      show m0.l.length ≤ (m.l ++ [some p]).length
      have := g.ln
      simp; omega, fun n a hn h => g.pre n a hn (by
        have : (m.l ++ [some p])[n]? = some (some a) := h
        rwa [List.getElem?_append_left (Nat.lt_of_lt_of_le hn g.ln)] at this), fun _ h => h, g.prot⟩
theorem Rel.unAdd {N0 : Addr → Prop} {p : Addr} {us : List V} {ws : List D} (r : Rel K H m S) (hs : ∀ a, N0 a → m.N a) (hN : m.N p) (h0 : ¬ N0 p) (hp : H p = some (.lst us)) (hw : DRs K H m ws us) : Rel K H ⟨m.l ++ [some p], N0⟩ (S ++ [.lst ws]) := by
  have hout : ∀ a, m.out a → Mp.out ⟨m.l ++ [some p], N0⟩ a := fun a h => ⟨fun z => by
    rcases List.mem_append.mp z with z | z
    · exact h.1 z
    · have : a = p := by simpa using z
      exact h.2 (by rw [this]; exact hN), fun z => h.2 (hs a z)⟩
  have np : some p ∉ m.l := fun z => r.no p z hN
  refine ⟨by simp [r.len], fun i j a h1 h2 => ?_, fun n o a h1 h2 => ?_, fun a h z => ?_, fun a h => r.nl a (hs a h)⟩
  · have key : ∀ i, (m.l ++ [some p])[i]? = some (some a) → m.l[i]? = some (some a) ∨ (i = m.l.length ∧ a = p) := fun i h => by
      by_cases hi : i < m.l.length
      · rw [List.getElem?_append_left hi] at h; exact .inl h
      · rw [List.getElem?_append_right (by omega)] at h
        have hz : i - m.l.length = 0 := by
          have := (List.getElem?_eq_some_iff.mp h).1
          simp at this; omega
        rw [hz] at h
        simp at h
        exact .inr ⟨by omega, h.symm⟩
    rcases key i h1 with k1 | ⟨e1, z1⟩ <;> rcases key j h2 with k2 | ⟨e2, z2⟩
    · exact r.nd i j a k1 k2
    · subst z2
      exact absurd (List.mem_of_getElem? k1) np
    · subst z1
      exact absurd (List.mem_of_getElem? k2) np
    · omega
  · by_cases hn : n < S.length
    · rw [List.getElem?_append_left hn] at h1
      have h2 : (m.l ++ [some p])[n]? = some a := h2
      rw [List.getElem?_append_left (by rw [← r.len]; exact hn)] at h2
      have q := r.ob n o a h1 h2
      cases o with
      | dead => exact q
      | lst ws =>
        obtain ⟨b, xs, e, q1, q2⟩ := q
        exact ⟨b, xs, e, q1, DRs.fewer hout q2⟩
    · rw [List.getElem?_append_right (by omega)] at h1
      have h2 : (m.l ++ [some p])[n]? = some a := h2
      rw [List.getElem?_append_right (by rw [← r.len]; omega)] at h2
      have hz : n - S.length = 0 := by
        have := (List.getElem?_eq_some_iff.mp h1).1
        simp at this; omega
      have hz2 : n - m.l.length = 0 := by rw [← r.len]; exact hz
      rw [hz] at h1
      rw [hz2] at h2
      simp at h1 h2
      subst h1 h2
      exact ⟨p, us, rfl, hp, DRs.fewer hout hw⟩
  · rcases List.mem_append.mp h with q | q
    · exact r.no a q (hs a z)
    · have : a = p := by simpa using q
      subst this
      exact h0 z
end
end MW
end
section
set_option maxRecDepth 100000
/-! MW, part b: the readings by the own machine, and the rules for expressions. -/
namespace MW
open PySem PySem.Spec L2

/-! ### readings -/
def tM (K : PySem.W.Frag) (f : ME) : TE := fun σ H Q => ∃ env S m w S', ER K H m env σ ∧ Rel K H m S ∧ f env S = some (w, S') ∧ ∀ H' m' v, Rel K H' m' S' → Gr K H m H' m' → WR K H' m' w v → Q v H'
def tMB (K : PySem.W.Frag) (f : MB) : TT := fun σ H Q => ∃ env S m w S', ER K H m env σ ∧ Rel K H m S ∧ f env S = some (w, S') ∧ ∀ H' m', Rel K H' m' S' → Gr K H m H' m' → Q w H'
def tMA (K : PySem.W.Frag) (f : MA) : TA := fun σ H Q => ∃ env S m w S', ER K H m env σ ∧ Rel K H m S ∧ f env S = some (w, S') ∧ ∀ H' m' v, Rel K H' m' S' → Gr K H m H' m' → WRs K H' m' w v → Q v H'
def FlP (K : PySem.W.Frag) (H : Hp) (m : Mp) (D : Ends) : Fl → Prop
  | .nx e S => ∀ σ' H' m', ER K H' m' e σ' → Rel K H' m' S → Gr K H m H' m' → D.nx σ' H'
  | .rt w S => ∀ H' m' v, Rel K H' m' S → Gr K H m H' m' → WR K H' m' w v → D.rt v H'
  | .bk e S => ∀ σ' H' m', ER K H' m' e σ' → Rel K H' m' S → Gr K H m H' m' → D.bk σ' H'
  | .ct e S => ∀ σ' H' m', ER K H' m' e σ' → Rel K H' m' S → Gr K H m H' m' → D.ct σ' H'
def tMS (K : PySem.W.Frag) (f : MS) : TS := fun D σ H => ∃ env S m r, ER K H m env σ ∧ Rel K H m S ∧ f env S = some r ∧ FlP K H m D r

section
variable {X : Cx} {e : Expr}
theorem PE.imp {t t' : TE} (h : PE X e t) (k : ∀ σ H Q, t' σ H Q → t σ H Q) : PE X e t' := ⟨fun pins s σ H Q I q => h.run pins s σ H Q I (k σ H Q q)⟩
theorem PT.imp {t t' : TT} (h : PT X e t) (k : ∀ σ H Q, t' σ H Q → t σ H Q) : PT X e t' := ⟨fun pins s σ H Q I q => h.run pins s σ H Q I (k σ H Q q)⟩
theorem PW.imp {t t' : TT} (h : PW X e t) (k : ∀ σ H Q, t' σ H Q → t σ H Q) : PW X e t' := ⟨fun wh pins s σ H Q I q => h.run wh pins s σ H Q I (k σ H Q q)⟩
theorem PA.imp {es : List Expr} {t t' : TA} (h : PA X es t) (k : ∀ σ H Q, t' σ H Q → t σ H Q) : PA X es t' := ⟨fun pos pins s σ H Q I q => h.run pos pins s σ H Q I (k σ H Q q)⟩
theorem PS.imp {st : Stmt} {t t' : TS} (h : PS X st t) (k : ∀ D σ H, t' D σ H → t D σ H) : PS X st t' := ⟨fun pins s σ H D I q => h.run pins s σ H D I (k D σ H q)⟩
theorem PSs.imp {st : List Stmt} {t t' : TS} (h : PSs X st t) (k : ∀ D σ H, t' D σ H → t D σ H) : PSs X st t' := ⟨fun pins s σ H D I q => h.run pins s σ H D I (k D σ H q)⟩
end

/-! ### names and constants -/
def mVar (i : Nat) : ME := fun env S => match env[i]? with
  | some (some w) => some (w, S)
  | _ => none
def mC (x : D) : ME := fun _ S => some (.d x, S)
section
variable {X : Cx}
theorem me_var {e : Expr} {i : Nat} (h : PE X e (tVar i)) : PE X e (tM X.K (mVar i)) := PE.imp h fun σ H Q ⟨env, S, m, w, S', er, rl, he, k⟩ => by
  unfold mVar at he
  split at he
  · rename_i w0 e0
    cases he
    obtain ⟨v, e1, r⟩ := er.val i _ e0
    exact ⟨v, e1, k H m v rl .refl r⟩
  · cases he
theorem me_c {e : Expr} {x : D} {v : V} (h : PE X e (tC v)) (r : ∀ H m, DR X.K H m x v) : PE X e (tM X.K (mC x)) := PE.imp h fun σ H Q ⟨env, S, m, w, S', er, rl, he, k⟩ => by
  cases he
  exact k H m v rl .refl (r H m)
theorem me_int {i j pos} : PE X (.Constant (.int i) j pos) (tM X.K (mC (.int i))) := me_c pe_int fun _ _ => by unfold DR; rfl
theorem me_bl {b j pos} : PE X (.Constant (.bool b) j pos) (tM X.K (mC (.bl b))) := me_c pe_bl fun _ _ => by unfold DR; rfl
theorem me_non {j pos} : PE X (.Constant .none j pos) (tM X.K (mC .non)) := me_c pe_non fun _ _ => by unfold DR; rfl
theorem me_str {x j pos} : PE X (.Constant (.str x) j pos) (tM X.K (mC (.str x))) := me_c pe_str fun _ _ => by unfold DR; rfl
end

/-! ### sequencing -/
def mBin (g : W → W → Sto → Option (W × Sto)) (fa fb : ME) : ME := fun env S => (fa env S).bind fun p => (fb env p.2).bind fun q => g p.1 q.1 q.2
def mUn (g : W → Sto → Option (W × Sto)) (fa : ME) : ME := fun env S => (fa env S).bind fun p => g p.1 p.2
theorem bind_some {α β : Type} {a : Option α} {f : α → Option β} {b : β} (h : a.bind f = some b) : ∃ x, a = some x ∧ f x = some b := by
  cases a with
  | none => cases h
  | some x => exact ⟨x, rfl, h⟩
/-- the reading of two expressions, from the left -/
theorem t2 {K : PySem.W.Frag} {fa fb : ME} {g : W → W → Sto → Option (W × Sto)} {σ : St} {H : Hp} {R : V → V → Hp → Prop} {env : Env} {S : Sto} {m : Mp} {r : W × Sto}
    (er : ER K H m env σ) (rl : Rel K H m S) (he : mBin g fa fb env S = some r)
    (k : ∀ w z S2 H2 m2 x y, Rel K H2 m2 S2 → Gr K H m H2 m2 → WR K H2 m2 w x → WR K H2 m2 z y → g w z S2 = some r → R x y H2) :
    tM K fa σ H fun x H1 => tM K fb σ H1 fun y H2 => R x y H2 := by
  unfold mBin at he
  obtain ⟨⟨w, S1⟩, h1, he⟩ := bind_some he
  obtain ⟨⟨z, S2⟩, h2, he⟩ := bind_some he
  refine ⟨env, S, m, w, S1, er, rl, h1, fun H1 m1 x rl1 g1 r1 => ⟨env, S1, m1, z, S2, er.gr g1, rl1, h2, fun H2 m2 y rl2 g2 r2 => ?_⟩⟩
  exact k w z S2 H2 m2 x y rl2 (g1.trans g2) (r1.gr g2) r2 he
/-- an operator by the own machine -/
def OpM (X : Cx) (f : Value → Value → Sem Value) (g : W → W → Sto → Option (W × Sto)) : Prop :=
  ∃ r : R2, OpR X f r ∧ ∀ (H : Hp) (S : Sto) (m : Mp) (x y : W) (v u : V) (w : W) (S' : Sto) (Q : VK), Rel X.K H m S → WR X.K H m x v → WR X.K H m y u → g x y S = some (w, S') →
    (∀ H' m' z, Rel X.K H' m' S' → Gr X.K H m H' m' → WR X.K H' m' w z → Q z H') → r v u H Q
theorem OpR.or {X : Cx} {f : Value → Value → Sem Value} {r r' : R2} (h : OpR X f r) (h' : OpR X f r') : OpR X f (fun x y H Q => r x y H Q ∨ r' x y H Q) := by
  intro pins s σ H x y v u Q I rx ry q
  rcases q with q | q
  · exact h pins s σ H x y v u Q I rx ry q
  · exact h' pins s σ H x y v u Q I rx ry q
/-- one operator after another is asked -/
def gOr (g g' : W → W → Sto → Option (W × Sto)) : W → W → Sto → Option (W × Sto) := fun x y S => match g x y S with
  | some r => some r
  | none => g' x y S
theorem OpM.or {X : Cx} {f : Value → Value → Sem Value} {g g' : W → W → Sto → Option (W × Sto)} (h : OpM X f g) (h' : OpM X f g') : OpM X f (gOr g g') := by
  obtain ⟨r, o, q⟩ := h
  obtain ⟨r', o', q'⟩ := h'
  refine ⟨_, OpR.or o o', fun H S m x y v u w S' Q rl rx ry e k => ?_⟩
  unfold gOr at e
  split at e
  · rename_i p e0
    cases e
    exact .inl (q H S m x y v u w S' Q rl rx ry e0 k)
  · exact .inr (q' H S m x y v u w S' Q rl rx ry e k)
/-- .. where both clauses give the same, the second one first told -/
theorem OpM.of {X : Cx} {f : Value → Value → Sem Value} {g g' : W → W → Sto → Option (W × Sto)} (h : OpM X f g) (e : ∀ x y S r, g' x y S = some r → g x y S = some r) : OpM X f g' := by
  obtain ⟨r, o, q⟩ := h
  exact ⟨r, o, fun H S m x y v u w S' Q rl rx ry e' k => q H S m x y v u w S' Q rl rx ry (e _ _ _ _ e') k⟩
section
variable {X : Cx} {a b c : Expr} {fa fb fc : ME} {pos : Pos} {g g' : W → W → Sto → Option (W × Sto)}
theorem me_bin {op : Operator} (ho : OpM X (binaryOp op) g) (ha : PE X a (tM X.K fa)) (hb : PE X b (tM X.K fb)) : PE X (.BinOp a op b pos) (tM X.K (mBin g fa fb)) := by
  obtain ⟨r, o, q⟩ := ho
  refine PE.imp (pe_op o ha hb) fun σ H Q ⟨env, S, m, w, S', er, rl, he, k⟩ => ?_
  refine t2 er rl he fun w1 z1 S2 H2 m2 x y rl2 g2 r1 r2 e => ?_
  exact q H2 S2 m2 w1 z1 x y w S' Q rl2 r1 r2 e fun H' m' z rl' g' => k H' m' z rl' (g2.trans g')
theorem me_cmp {op : CmpOp} (ho : OpM X (compareOp op) g) (ha : PE X a (tM X.K fa)) (hb : PE X b (tM X.K fb)) (hm : behindInMarks op b = false) : PE X (.Compare a [op] [b] pos) (tM X.K (mBin g fa fb)) := by
  obtain ⟨r, o, q⟩ := ho
  refine PE.imp (pe_cmpR o ha hb hm) fun σ H Q ⟨env, S, m, w, S', er, rl, he, k⟩ => ?_
  refine t2 er rl he fun w1 z1 S2 H2 m2 x y rl2 g2 r1 r2 e => ?_
  exact q H2 S2 m2 w1 z1 x y w S' Q rl2 r1 r2 e fun H' m' z rl' g' => k H' m' z rl' (g2.trans g')
/-- the answer of a test -/
def mTest (f : ME) : MB := fun env S => (f env S).bind fun p => match p.1 with
  | .d (.bl b) => some (b, p.2)
  | _ => none
theorem tTest_of {K : PySem.W.Frag} {f : ME} {σ : St} {H : Hp} {Q : Bool → Hp → Prop} (h : tMB K (mTest f) σ H Q) : tM K f σ H fun x H' => ∃ k, x = .bl k ∧ Q k H' := by
  obtain ⟨env, S, m, w, S', er, rl, he, k⟩ := h
  unfold mTest at he
  obtain ⟨⟨z, S1⟩, h1, he⟩ := bind_some he
  split at he
  · rename_i b0 e0
    cases he
    refine ⟨env, S, m, _, _, er, rl, h1, fun H' m' v rl' g' r => ?_⟩
    have e0 : z = .d (.bl w) := e0
    subst e0
    unfold WR DR at r
    exact ⟨_, r, k H' m' rl' g'⟩
  · cases he
theorem mt_cmp {op : CmpOp} (ho : OpM X (compareOp op) g) (ha : PE X a (tM X.K fa)) (hb : PE X b (tM X.K fb)) (hm : behindInMarks op b = false) : PT X (.Compare a [op] [b] pos) (tMB X.K (mTest (mBin g fa fb))) := by
  obtain ⟨r, o, q⟩ := ho
  refine PT.imp (pt_cmpR o ha hb hm) fun σ H Q h => ?_
  obtain ⟨env, S, m, w, S', er, rl, he, k⟩ := tTest_of h
  show tM X.K fa σ H _
  refine t2 er rl he fun w1 z1 S2 H2 m2 x y rl2 g2 r1 r2 e => ?_
  exact q H2 S2 m2 w1 z1 x y w S' _ rl2 r1 r2 e fun H' m' z rl' g' r' => k H' m' z rl' (g2.trans g') r'
theorem mt_val {f : ME} (h : PE X a (tM X.K f)) (he : ∀ whole, isTrue a X.env whole = (do let v ← whole; standAt a.pos; holding [v] (truthy v)) := by intro _; rfl) : PT X a (tMB X.K (mTest f)) :=
  PT.imp (pt_val h he) fun σ H Q h => tTest_of h
/-- a chain of two comparisons -/
def mChain (g g' : W → W → Sto → Option (W × Sto)) (fa fb fc : ME) : ME := fun env S => (fa env S).bind fun p => (fb env p.2).bind fun q => (g p.1 q.1 q.2).bind fun r => match r.1 with
  | .d (.bl true) => (fc env r.2).bind fun t => g' q.1 t.1 t.2
  | .d (.bl false) => some (.d (.bl false), r.2)
  | _ => none
theorem chain_of {r r' : R2} {σ : St} {H : Hp} {Q : VK} (q : ∀ (H : Hp) (S : Sto) (m : Mp) (x y : W) (v u : V) (w : W) (S' : Sto) (Q : VK), Rel X.K H m S → WR X.K H m x v → WR X.K H m y u → g x y S = some (w, S') →
    (∀ H' m' z, Rel X.K H' m' S' → Gr X.K H m H' m' → WR X.K H' m' w z → Q z H') → r v u H Q)
    (q' : ∀ (H : Hp) (S : Sto) (m : Mp) (x y : W) (v u : V) (w : W) (S' : Sto) (Q : VK), Rel X.K H m S → WR X.K H m x v → WR X.K H m y u → g' x y S = some (w, S') →
    (∀ H' m' z, Rel X.K H' m' S' → Gr X.K H m H' m' → WR X.K H' m' w z → Q z H') → r' v u H Q) (h : tM X.K (mChain g g' fa fb fc) σ H Q) : tChain r r' (tM X.K fa) (tM X.K fb) (tM X.K fc) σ H Q := by
  obtain ⟨env, S, m, w, S', er, rl, he, k⟩ := h
  unfold mChain at he
  obtain ⟨⟨w1, S1⟩, h1, he⟩ := bind_some he
  obtain ⟨⟨w2, S2⟩, h2, he⟩ := bind_some he
  obtain ⟨⟨w3, S3⟩, h3, he⟩ := bind_some he
  refine ⟨env, S, m, w1, S1, er, rl, h1, fun H1 m1 x rl1 g1 r1 => ⟨env, S1, m1, w2, S2, er.gr g1, rl1, h2, fun H2 m2 y rl2 g2 r2 => ?_⟩⟩
  refine q H2 S2 m2 w1 w2 x y w3 S3 _ rl2 (r1.gr g2) r2 h3 fun H3 m3 z rl3 g3 r3 => ?_
  have g13 := (g1.trans g2).trans g3
  split at he
  · rename_i e0
    have e0 : w3 = .d (.bl true) := e0
    subst e0
    obtain ⟨⟨w4, S4⟩, h4, he⟩ := bind_some he
    unfold WR DR at r3
    refine ⟨true, r3, ?_⟩
    rw [if_pos rfl]
    refine ⟨env, S3, m3, w4, S4, er.gr g13, rl3, h4, fun H4 m4 t rl4 g4 r4 => ?_⟩
    exact q' H4 S4 m4 w2 w4 y t w S' Q rl4 ((r2.gr g3).gr g4) r4 he fun H' m' z' rl' g' r' => k H' m' z' rl' ((g13.trans g4).trans g') r'
  · rename_i e0
    have e0 : w3 = .d (.bl false) := e0
    subst e0
    cases he
    unfold WR DR at r3
    refine ⟨false, r3, ?_⟩
    rw [if_neg (by decide)]
    exact k H3 m3 (.bl false) rl3 g13 (by unfold WR DR; rfl)
  · cases he
theorem me_chain {op op' : CmpOp} (ho : OpM X (compareOp op) g) (ho' : OpM X (compareOp op') g') (ha : PE X a (tM X.K fa)) (hb : PE X b (tM X.K fb)) (hc : PE X c (tM X.K fc))
    (hm : lastMarks [op, op'] [b, c] = false := by with_unfolding_all rfl) : PE X (.Compare a [op, op'] [b, c] pos) (tM X.K (mChain g g' fa fb fc)) := by
  obtain ⟨r, o, q⟩ := ho
  obtain ⟨r', o', q'⟩ := ho'
  exact PE.imp (pe_chain o o' ha hb hc hm) fun σ H Q h => chain_of q q' h
theorem mt_chain {op op' : CmpOp} (ho : OpM X (compareOp op) g) (ho' : OpM X (compareOp op') g') (ha : PE X a (tM X.K fa)) (hb : PE X b (tM X.K fb)) (hc : PE X c (tM X.K fc))
    (hm : lastMarks [op, op'] [b, c] = false := by with_unfolding_all rfl) : PT X (.Compare a [op, op'] [b, c] pos) (tMB X.K (mTest (mChain g g' fa fb fc))) := by
  obtain ⟨r, o, q⟩ := ho
  obtain ⟨r', o', q'⟩ := ho'
  refine PT.imp (pt_chain o o' ha hb hc hm) fun σ H Q h => ?_
  exact chain_of q q' (tTest_of h)

/-! ### and, or, not, if -/
def mAnd (f g : MB) : MB := fun env S => (f env S).bind fun p => if p.1 then g env p.2 else some (false, p.2)
def mOr (f g : MB) : MB := fun env S => (f env S).bind fun p => if p.1 then some (true, p.2) else g env p.2
def mNot (f : MB) : MB := fun env S => (f env S).bind fun p => some (!p.1, p.2)
def mB (f : MB) : ME := fun env S => (f env S).bind fun p => some (.d (.bl p.1), p.2)
def mIf (t : MB) (f g : ME) : ME := fun env S => (t env S).bind fun p => if p.1 then f env p.2 else g env p.2
variable {ta tb : MB} {rest : List Expr}
theorem mw_and1 (h : PT X a (tMB X.K ta)) : PW X (.BoolOp .And [a] pos) (tMB X.K ta) := pw_and1 h
theorem mw_or1 (h : PT X a (tMB X.K ta)) : PW X (.BoolOp .Or [a] pos) (tMB X.K ta) := pw_or1 h
theorem mw_and (ha : PT X a (tMB X.K ta)) (hb : PW X (.BoolOp .And (b :: rest) pos) (tMB X.K tb)) : PW X (.BoolOp .And (a :: b :: rest) pos) (tMB X.K (mAnd ta tb)) :=
  PW.imp (pw_and ha hb) fun σ H Q ⟨env, S, m, w, S', er, rl, he, k⟩ => by
    unfold mAnd at he
    obtain ⟨⟨p, S1⟩, h1, he⟩ := bind_some he
    refine ⟨env, S, m, p, S1, er, rl, h1, fun H1 m1 rl1 g1 => ?_⟩
    cases p with
    | true => exact ⟨env, S1, m1, w, S', er.gr g1, rl1, by simpa using he, fun H' m' rl' g' => k H' m' rl' (g1.trans g')⟩
    | false =>
      simp at he
      obtain ⟨rfl, rfl⟩ := he
      exact k H1 m1 rl1 g1
theorem mw_or (ha : PT X a (tMB X.K ta)) (hb : PW X (.BoolOp .Or (b :: rest) pos) (tMB X.K tb)) : PW X (.BoolOp .Or (a :: b :: rest) pos) (tMB X.K (mOr ta tb)) :=
  PW.imp (pw_or ha hb) fun σ H Q ⟨env, S, m, w, S', er, rl, he, k⟩ => by
    unfold mOr at he
    obtain ⟨⟨p, S1⟩, h1, he⟩ := bind_some he
    refine ⟨env, S, m, p, S1, er, rl, h1, fun H1 m1 rl1 g1 => ?_⟩
    cases p with
    | false => exact ⟨env, S1, m1, w, S', er.gr g1, rl1, by simpa using he, fun H' m' rl' g' => k H' m' rl' (g1.trans g')⟩
    | true =>
      simp at he
      obtain ⟨rfl, rfl⟩ := he
      exact k H1 m1 rl1 g1
theorem mt_not (ha : PT X a (tMB X.K ta)) : PT X (.UnaryOp .Not a pos) (tMB X.K (mNot ta)) :=
  PT.imp (pt_not ha) fun σ H Q ⟨env, S, m, w, S', er, rl, he, k⟩ => by
    unfold mNot at he
    obtain ⟨⟨p, S1⟩, h1, he⟩ := bind_some he
    cases he
    exact ⟨env, S, m, p, _, er, rl, h1, k⟩
/-- .. as values -/
def mAndV (f g : ME) : ME := fun env S => (f env S).bind fun p => match p.1 with
  | .d (.bl true) => g env p.2
  | .d (.bl false) => some (.d (.bl false), p.2)
  | _ => none
def mOrV (f g : ME) : ME := fun env S => (f env S).bind fun p => match p.1 with
  | .d (.bl false) => g env p.2
  | .d (.bl true) => some (.d (.bl true), p.2)
  | _ => none
def mNotV (f : ME) : ME := fun env S => (f env S).bind fun p => match p.1 with
  | .d (.bl b) => some (.d (.bl (!b)), p.2)
  | _ => none
theorem me_one {op} {f : ME} (h : PE X a (tM X.K f)) : PE X (.BoolOp op [a] pos) (tM X.K f) := pe_one h
theorem me_and (ha : PE X a (tM X.K fa)) (hb : PE X (.BoolOp .And (b :: rest) pos) (tM X.K fb)) : PE X (.BoolOp .And (a :: b :: rest) pos) (tM X.K (mAndV fa fb)) :=
  PE.imp (pe_and ha hb) fun σ H Q ⟨env, S, m, w, S', er, rl, he, k⟩ => by
    unfold mAndV at he
    obtain ⟨⟨p, S1⟩, h1, he⟩ := bind_some he
    refine ⟨env, S, m, p, S1, er, rl, h1, fun H1 m1 x rl1 g1 r1 => ?_⟩
    split at he
    · rename_i e0
      have e0 : p = .d (.bl true) := e0
      subst e0
      unfold WR DR at r1
      refine ⟨true, r1, ?_⟩
      rw [if_pos rfl]
      exact ⟨env, S1, m1, w, S', er.gr g1, rl1, he, fun H' m' v rl' g' => k H' m' v rl' (g1.trans g')⟩
    · rename_i e0
      have e0 : p = .d (.bl false) := e0
      subst e0
      unfold WR DR at r1
      cases he
      refine ⟨false, r1, ?_⟩
      rw [if_neg (by decide)]
      exact k H1 m1 _ rl1 g1 (by unfold WR DR; rfl)
    · cases he
theorem me_or (ha : PE X a (tM X.K fa)) (hb : PE X (.BoolOp .Or (b :: rest) pos) (tM X.K fb)) : PE X (.BoolOp .Or (a :: b :: rest) pos) (tM X.K (mOrV fa fb)) :=
  PE.imp (pe_or ha hb) fun σ H Q ⟨env, S, m, w, S', er, rl, he, k⟩ => by
    unfold mOrV at he
    obtain ⟨⟨p, S1⟩, h1, he⟩ := bind_some he
    refine ⟨env, S, m, p, S1, er, rl, h1, fun H1 m1 x rl1 g1 r1 => ?_⟩
    split at he
    · rename_i e0
      have e0 : p = .d (.bl false) := e0
      subst e0
      unfold WR DR at r1
      refine ⟨false, r1, ?_⟩
      rw [if_neg (by decide)]
      exact ⟨env, S1, m1, w, S', er.gr g1, rl1, he, fun H' m' v rl' g' => k H' m' v rl' (g1.trans g')⟩
    · rename_i e0
      have e0 : p = .d (.bl true) := e0
      subst e0
      unfold WR DR at r1
      cases he
      refine ⟨true, r1, ?_⟩
      rw [if_pos rfl]
      exact k H1 m1 _ rl1 g1 (by unfold WR DR; rfl)
    · cases he
theorem me_not (ha : PE X a (tM X.K fa)) : PE X (.UnaryOp .Not a pos) (tM X.K (mNotV fa)) :=
  PE.imp (pe_not ha) fun σ H Q ⟨env, S, m, w, S', er, rl, he, k⟩ => by
    unfold mNotV at he
    obtain ⟨⟨p, S1⟩, h1, he⟩ := bind_some he
    refine ⟨env, S, m, p, S1, er, rl, h1, fun H1 m1 x rl1 g1 r1 => ?_⟩
    split at he
    · rename_i b0 e0
      have e0 : p = .d (.bl b0) := e0
      subst e0
      unfold WR DR at r1
      cases he
      exact ⟨b0, r1, k H1 m1 _ rl1 g1 (by unfold WR DR; rfl)⟩
    · cases he
theorem me_if {c : Expr} (hc : PT X c (tMB X.K ta)) (ha : PE X a (tM X.K fa)) (hb : PE X b (tM X.K fb)) : PE X (.IfExp c a b pos) (tM X.K (mIf ta fa fb)) :=
  PE.imp (pe_ifExp hc ha hb) fun σ H Q ⟨env, S, m, w, S', er, rl, he, k⟩ => by
    unfold mIf at he
    obtain ⟨⟨p, S1⟩, h1, he⟩ := bind_some he
    refine ⟨env, S, m, p, S1, er, rl, h1, fun H1 m1 rl1 g1 => ?_⟩
    cases p with
    | true =>
      rw [if_pos rfl]
      exact ⟨env, S1, m1, w, S', er.gr g1, rl1, by simpa using he, fun H' m' v rl' g' => k H' m' v rl' (g1.trans g')⟩
    | false =>
      rw [if_neg (by decide)]
      exact ⟨env, S1, m1, w, S', er.gr g1, rl1, by simpa using he, fun H' m' v rl' g' => k H' m' v rl' (g1.trans g')⟩
/-! ### argument lists, displays -/
def mNil : MA := fun _ S => some ([], S)
def mCons (f : ME) (g : MA) : MA := fun env S => (f env S).bind fun p => (g env p.2).bind fun q => some (p.1 :: q.1, q.2)
variable {e : Expr} {es : List Expr} {f : ME} {ga : MA}
theorem ma_nil : PA X [] (tMA X.K mNil) := PA.imp pa_nil fun σ H Q ⟨env, S, m, w, S', er, rl, he, k⟩ => by
  cases he
  exact k H m [] rl .refl rfl
theorem ma_cons (ha : PE X e (tM X.K f)) (hr : PA X es (tMA X.K ga)) (hs : starEach (e :: es) X.env = (false, eval e X.env) :: starEach es X.env := by rfl) : PA X (e :: es) (tMA X.K (mCons f ga)) :=
  PA.imp (pa_cons ha hr hs) fun σ H Q ⟨env, S, m, w, S', er, rl, he, k⟩ => by
    unfold mCons at he
    obtain ⟨⟨p, S1⟩, h1, he⟩ := bind_some he
    obtain ⟨⟨q, S2⟩, h2, he⟩ := bind_some he
    cases he
    refine ⟨env, S, m, p, S1, er, rl, h1, fun H1 m1 x rl1 g1 r1 => ⟨env, S1, m1, q, _, er.gr g1, rl1, h2, fun H2 m2 xs rl2 g2 r2 => ?_⟩⟩
    exact k H2 m2 (x :: xs) rl2 (g1.trans g2) ⟨x, xs, rfl, r1.gr g2, r2⟩
end
/-- lists of the own store are given away; what is given is data -/
def give : List W → Sto → Option (List D × Sto)
  | [], S => some ([], S)
  | .d x :: ws, S => (give ws S).bind fun p => some (x :: p.1, p.2)
  | .ref n :: ws, S => match S[n]? with
    | some (.lst xs) => (give ws (S.set n .dead)).bind fun p => some (.lst xs :: p.1, p.2)
    | _ => none
  | .scr _ :: _, _ => none
theorem give_ok {K : PySem.W.Frag} : ∀ {ws : List W} {S S' : Sto} {ds : List D} {H : Hp} {m : Mp} {vs : List V}, give ws S = some (ds, S') → Rel K H m S → WRs K H m ws vs →
    ∃ m', Rel K H m' S' ∧ Gr K H m H m' ∧ DRs K H m' ds vs
  | [], S, S', ds, H, m, vs, h, rl, r => by
    cases h
    unfold WRs at r
    exact ⟨m, rl, .refl, r⟩
  | .d x :: ws, S, S', ds, H, m, vs, h, rl, r => by
    unfold give at h
    obtain ⟨⟨p, S1⟩, h1, h⟩ := bind_some h
    cases h
    obtain ⟨v, vs', rfl, r1, r2⟩ := r
    obtain ⟨m', a, b, c⟩ := give_ok h1 rl r2
    exact ⟨m', a, b, DRs.cons (DR.gr b r1) c⟩
  | .ref n :: ws, S, S', ds, H, m, vs, h, rl, r => by
    unfold give at h
    split at h
    · rename_i xs e0
      obtain ⟨⟨p, S1⟩, h1, h⟩ := bind_some h
      cases h
      obtain ⟨v, vs', rfl, r1, r2⟩ := r
      obtain ⟨o, ho⟩ : ∃ o, m.l[n]? = some o := ⟨m.l[n]'r1.1, by simp [r1.1]⟩
      obtain ⟨a, ys, rfl, ha, hd⟩ := rl.ob n _ _ e0 ho
      have ev := r1.2 a ho
      subst ev
      have g : Gr K H m H (m.kill n) := gr_move
      obtain ⟨m', x1, x2, x3⟩ := give_ok h1 rl.move (r2.gr g)
      exact ⟨m', x1, g.trans x2, DRs.cons (DR.gr x2 (moved rl ho ha hd)) x3⟩
    · cases h
  | .scr _ :: _, _, _, _, _, _, _, h, _, _ => by cases h
section
variable {X : Cx} {es : List Expr} {ga : MA} {pos : Pos} {j : Nat}
def mTup (ga : MA) : ME := fun env S => (ga env S).bind fun p => (give p.1 p.2).bind fun q => if q.1.length ≤ sizeLine then some (.d (.tup q.1), q.2) else none
/-- how a new list is held: for good, or in the own store -/
inductive Mk where
  | pure | own
def newL (k : Mk) (xs : List D) (S : Sto) : W × Sto := match k with
  | .pure => (.d (.lst xs), S)
  | .own => (.ref S.length, S ++ [.lst xs])
theorem newL_ok {K : PySem.W.Frag} {k : Mk} {xs : List D} {vs : List V} {S S' : Sto} {w : W} {H : Hp} {m : Mp} {Q : VK} (e : newL k xs S = (w, S')) (rl : Rel K H m S) (r : DRs K H m xs vs)
    (h : ∀ H' m' v, Rel K H' m' S' → Gr K H m H' m' → WR K H' m' w v → Q v H') : ∀ p, H p = none → Q (.ref p) (upd H p (.lst vs)) := by
  intro p hp
  cases k with
  | pure =>
    cases e
    have g : Gr K H m (upd H p (.lst vs)) m := .fresh hp
    refine h _ m _ (rl.fresh hp) g ?_
    unfold WR DR
    exact ⟨p, vs, rfl, upd_same, rl.free hp, DRs.gr g r⟩
  | own =>
    cases e
    refine h _ _ _ (rl.alloc hp r) (gr_alloc rl hp) ⟨by simp [rl.len, Mp.add], fun a e => ?_⟩
    unfold Mp.add at e
    dsimp only at e
    rw [rl.len, List.getElem?_append_right (Nat.le_refl _)] at e
    simp at e
    rw [e]
theorem me_tup (h : PA X es (tMA X.K ga)) : PE X (.Tuple es j pos) (tM X.K (mTup ga)) :=
  PE.imp (pe_tup h) fun σ H Q ⟨env, S, m, w, S', er, rl, he, k⟩ => by
    unfold mTup at he
    obtain ⟨⟨p, S1⟩, h1, he⟩ := bind_some he
    obtain ⟨⟨q, S2⟩, h2, he⟩ := bind_some he
    split at he
    · rename_i hz
      cases he
      refine ⟨env, S, m, p, S1, er, rl, h1, fun H1 m1 xs rl1 g1 r1 => ?_⟩
      obtain ⟨m2, rl2, g2, r2⟩ := give_ok h2 rl1 r1
      refine ⟨by rw [DRs.length r2]; exact hz, fun a ha => ?_⟩
      have g : Gr X.K H1 m2 (upd H1 a (.tup xs)) m2 := .fresh ha
      refine k _ m2 _ (rl2.fresh ha) ((g1.trans g2).trans g) ?_
      unfold WR DR
      exact ⟨a, xs, rfl, SqT.of upd_same, DRs.gr g r2⟩
    · cases he
def mList (k : Mk) (ga : MA) : ME := fun env S => (ga env S).bind fun p => (give p.1 p.2).bind fun q => if q.1.length ≤ sizeLine then some (newL k q.1 q.2) else none
theorem me_list (k : Mk) (h : PA X es (tMA X.K ga)) : PE X (.List es pos) (tM X.K (mList k ga)) :=
  PE.imp (pe_lst h) fun σ H Q ⟨env, S, m, w, S', er, rl, he, kk⟩ => by
    unfold mList at he
    obtain ⟨⟨p, S1⟩, h1, he⟩ := bind_some he
    obtain ⟨⟨q, S2⟩, h2, he⟩ := bind_some he
    split at he
    · rename_i hz
      have he := Option.some.inj he
      refine ⟨env, S, m, p, S1, er, rl, h1, fun H1 m1 xs rl1 g1 r1 => ?_⟩
      obtain ⟨m2, rl2, g2, r2⟩ := give_ok h2 rl1 r1
      exact ⟨by rw [DRs.length r2]; exact hz, newL_ok he rl2 r2 fun H' m' v rl' g' r' => kk H' m' v rl' ((g1.trans g2).trans g') r'⟩
    · cases he
end
end MW
end
section
set_option maxRecDepth 100000
/-! MW, part c: operators, subscripts, built-ins. -/
namespace MW
open PySem PySem.Spec L2

/-! ### ints -/
def gInt (g : Int → Int → Option D) : W → W → Sto → Option (W × Sto) := fun x y S => match x, y with
  | .d (.int i), .d (.int j) => (g i j).bind fun z => some (.d z, S)
  | _, _ => none
section
variable {X : Cx}
theorem opm_int {f : Value → Value → Sem Value} {C : Int → Int → Prop} {gv : Int → Int → V} {g : Int → Int → Option D} (ho : OpR X f (rI C gv)) (h : ∀ i j z, g i j = some z → C i j ∧ ∀ H m, DR X.K H m z (gv i j)) : OpM X f (gInt g) := by
  refine ⟨_, ho, fun H S m x y v u w S' Q rl rx ry e k => ?_⟩
  unfold gInt at e
  split at e
  · rename_i i j
    obtain ⟨z, h1, e⟩ := bind_some e
    cases e
    unfold WR DR at rx ry
    obtain ⟨c, r⟩ := h i j z h1
    exact ⟨i, j, rx, ry, c, k H m _ rl .refl (r H m)⟩
  · cases e
theorem rI0_rI (g : Int → Int → V) : rI0 g = rI (fun _ _ => True) g := by
  funext x y H Q
  unfold rI0 rI
  simp
theorem opm_int0 {f : Value → Value → Sem Value} {gv : Int → Int → V} {g : Int → Int → D} (ho : OpR X f (rI0 gv)) (h : ∀ i j H m, DR X.K H m (g i j) (gv i j)) : OpM X f (gInt fun i j => some (g i j)) := by
  rw [rI0_rI] at ho
  exact opm_int ho fun i j z e => by cases e; exact ⟨trivial, h i j⟩
theorem DR.int (K : PySem.W.Frag) (H : Hp) (m : Mp) (i : Int) : DR K H m (.int i) (.int i) := by unfold DR; rfl
theorem DR.bl (K : PySem.W.Frag) (H : Hp) (m : Mp) (b : Bool) : DR K H m (.bl b) (.bl b) := by unfold DR; rfl
theorem DR.str (K : PySem.W.Frag) (H : Hp) (m : Mp) (b : Str) : DR K H m (.str b) (.str b) := by unfold DR; rfl
theorem WR.int {K : PySem.W.Frag} {H : Hp} {m : Mp} {i : Int} : WR K H m (.d (.int i)) (.int i) := DR.int K H m i
theorem WR.bl {K : PySem.W.Frag} {H : Hp} {m : Mp} {i : Bool} : WR K H m (.d (.bl i)) (.bl i) := DR.bl K H m i
theorem WR.str {K : PySem.W.Frag} {H : Hp} {m : Mp} {i : Str} : WR K H m (.d (.str i)) (.str i) := DR.str K H m i
theorem WR.non {K : PySem.W.Frag} {H : Hp} {m : Mp} : WR K H m (.d .non) .non := by show DR K H m .non .non; unfold DR; rfl
theorem DR.non (K : PySem.W.Frag) (H : Hp) (m : Mp) : DR K H m .non .non := by unfold DR; rfl
def iAdd (i j : Int) : Option D := some (.int (i + j))
def iSub (i j : Int) : Option D := some (.int (i - j))
def iMul (i j : Int) : Option D := if i.natAbs.log2 + j.natAbs.log2 < 1000000 then some (.int (i * j)) else none
def iDiv (i j : Int) : Option D := if j ≠ 0 ∧ j.natAbs.log2 < 9000 then some (.int (i.fdiv j)) else none
def iMod (i j : Int) : Option D := if j ≠ 0 then some (.int (i.fmod j)) else none
def iPow (i j : Int) : Option D := if 0 ≤ j ∧ j ≤ 1000000 ∧ i.natAbs < 2 ^ 64 then some (.int (i ^ j.toNat)) else none
theorem om_addI : OpM X (binaryOp .Add) (gInt iAdd) := opm_int0 (g := fun i j => .int (i + j)) op_add fun _ _ _ _ => DR.int _ _ _ _
theorem om_sub : OpM X (binaryOp .Sub) (gInt iSub) := opm_int0 (g := fun i j => .int (i - j)) op_sub fun _ _ _ _ => DR.int _ _ _ _
theorem om_mulI : OpM X (binaryOp .Mult) (gInt iMul) := opm_int op_mulW fun i j z e => by
  unfold iMul at e
  split at e
  · cases e; exact ⟨by assumption, fun _ _ => DR.int _ _ _ _⟩
  · cases e
theorem op_fdivG : OpR X (binaryOp .FloorDiv) (rI (fun _ j => j ≠ 0 ∧ j.natAbs.log2 < 9000) fun i j => .int (i.fdiv j)) := opI fun i j _ _ _ _ _ hc q =>
  PyProof.Rows.floordiv_int hc.1 q (.inl (PyProof.noPylong_of_log2 hc.2))
theorem om_div : OpM X (binaryOp .FloorDiv) (gInt iDiv) := opm_int op_fdivG fun i j z e => by
  unfold iDiv at e
  split at e
  · cases e; exact ⟨by assumption, fun _ _ => DR.int _ _ _ _⟩
  · cases e
theorem om_mod : OpM X (binaryOp .Mod) (gInt iMod) := opm_int op_modN fun i j z e => by
  unfold iMod at e
  split at e
  · cases e; exact ⟨by assumption, fun _ _ => DR.int _ _ _ _⟩
  · cases e
theorem om_pow : OpM X (binaryOp .Pow) (gInt iPow) := opm_int op_pow fun i j z e => by
  unfold iPow at e
  split at e
  · cases e; exact ⟨by assumption, fun _ _ => DR.int _ _ _ _⟩
  · cases e
def iLt (i j : Int) : Option D := some (.bl (decide (i < j)))
def iLe (i j : Int) : Option D := some (.bl (decide (i ≤ j)))
def iGt (i j : Int) : Option D := some (.bl (decide (j < i)))
def iGe (i j : Int) : Option D := some (.bl (decide (j ≤ i)))
theorem om_lt : OpM X (compareOp .Lt) (gInt iLt) := opm_int0 (g := fun i j => .bl (decide (i < j))) op_lt fun _ _ _ _ => DR.bl _ _ _ _
theorem om_le : OpM X (compareOp .LtE) (gInt iLe) := opm_int0 (g := fun i j => .bl (decide (i ≤ j))) op_le fun _ _ _ _ => DR.bl _ _ _ _
theorem om_gt : OpM X (compareOp .Gt) (gInt iGt) := opm_int0 (g := fun i j => .bl (decide (j < i))) op_gt fun _ _ _ _ => DR.bl _ _ _ _
theorem om_ge : OpM X (compareOp .GtE) (gInt iGe) := opm_int0 (g := fun i j => .bl (decide (j ≤ i))) op_ge fun _ _ _ _ => DR.bl _ _ _ _
/-- -a -/
def gNeg : W → Sto → Option (W × Sto) := fun x S => match x with
  | .d (.int i) => some (.d (.int (-i)), S)
  | _ => none
variable {a b : Expr} {fa fb : ME} {pos : Pos}
theorem me_neg (ha : PE X a (tM X.K fa)) : PE X (.UnaryOp .USub a pos) (tM X.K (mUn gNeg fa)) :=
  PE.imp (pe_un un_neg ha) fun σ H Q ⟨env, S, m, w, S', er, rl, he, k⟩ => by
    unfold mUn at he
    obtain ⟨⟨p, S1⟩, h1, he⟩ := bind_some he
    refine ⟨env, S, m, p, S1, er, rl, h1, fun H1 m1 x rl1 g1 r1 => ?_⟩
    unfold gNeg at he
    split at he
    · rename_i i e0
      have e0 : p = .d (.int i) := e0
      subst e0
      cases he
      unfold WR DR at r1
      exact ⟨i, r1, k H1 m1 _ rl1 g1 WR.int⟩
    · cases he

/-! ### lists and tuples that are read -/
/-- the items of any list -/
def W.list (S : Sto) : W → Option (List D)
  | .d (.lst xs) => some xs
  | .scr ns => some (ns.map D.int)
  | .ref n => match S[n]? with
    | some (.lst xs) => some xs
    | _ => none
  | _ => none
/-- .. of a list that stands in the heap by itself -/
def W.listT (S : Sto) : W → Option (List D)
  | .d (.lst xs) => some xs
  | .ref n => match S[n]? with
    | some (.lst xs) => some xs
    | _ => none
  | _ => none
def W.tup : W → Option (List D)
  | .d (.tup xs) => some xs
  | _ => none
variable {K : PySem.W.Frag} {H : Hp} {m : Mp} {S : Sto} {w : W} {v : V} {xs : List D}
theorem ref_ok {n : Nat} (e0 : S[n]? = some (.lst xs)) (rl : Rel K H m S) (r : WR K H m (.ref n) v) : ∃ a vs, v = .ref a ∧ m.l[n]? = some (some a) ∧ H a = some (.lst vs) ∧ DRs K H m xs vs := by
  obtain ⟨o, ho⟩ : ∃ o, m.l[n]? = some o := ⟨m.l[n]'r.1, by simp [r.1]⟩
  obtain ⟨a, vs, rfl, ha, hd⟩ := rl.ob n _ _ e0 ho
  exact ⟨a, vs, r.2 a ho, ho, ha, hd⟩
theorem W.listT_ok (e : W.listT S w = some xs) (rl : Rel K H m S) (r : WR K H m w v) : ∃ a vs, v = .ref a ∧ H a = some (.lst vs) ∧ DRs K H m xs vs := by
  cases w with
  | d x =>
    cases x with
    | lst ys =>
      cases e
      unfold WR DR at r
      obtain ⟨a, vs, e, h, _, h2⟩ := r
      exact ⟨a, vs, e, h, h2⟩
    | _ => cases e
  | scr ns => cases e
  | ref n =>
    unfold W.listT at e
    dsimp only at e
    split at e
    · rename_i ys e0
      cases e
      obtain ⟨a, vs, h1, _, h2, h3⟩ := ref_ok e0 rl r
      exact ⟨a, vs, h1, h2, h3⟩
    · cases e
theorem W.list_ok (e : W.list S w = some xs) (rl : Rel K H m S) (r : WR K H m w v) : ∃ a vs, v = .ref a ∧ SqL K H a vs ∧ DRs K H m xs vs := by
  cases w with
  | d x =>
    cases x with
    | lst ys =>
      cases e
      unfold WR DR at r
      obtain ⟨a, vs, e, h, _, h2⟩ := r
      exact ⟨a, vs, e, SqL.of h, h2⟩
    | _ => cases e
  | scr ns =>
    cases e
    obtain ⟨a, e, h⟩ := r
    exact ⟨a, _, e, Fz.sq h, DRs.ints.mpr rfl⟩
  | ref n =>
    unfold W.list at e
    dsimp only at e
    split at e
    · rename_i ys e0
      cases e
      obtain ⟨a, vs, h1, _, h2, h3⟩ := ref_ok e0 rl r
      exact ⟨a, vs, h1, SqL.of h2, h3⟩
    · cases e
theorem W.tup_ok (e : W.tup w = some xs) (r : WR K H m w v) : ∃ a vs, v = .ref a ∧ SqT K H a vs ∧ DRs K H m xs vs := by
  unfold W.tup at e
  split at e
  · cases e
    unfold WR DR at r
    exact r
  · cases e
theorem DRs.nil_iff {ws : List D} {vs : List V} (h : DRs K H m ws vs) : vs = [] ↔ ws = [] := by
  cases ws with
  | nil => unfold DRs at h; simp [h]
  | cons w ws => unfold DRs at h; obtain ⟨v, vs', rfl, _⟩ := h; simp

/-! ### + and * of texts, tuples, lists -/
def gAddS : W → W → Sto → Option (W × Sto) := fun x y S => match x, y with
  | .d (.str a), .d (.str b) => if a.length + b.length ≤ sizeLine then some (.d (.str (a ++ b)), S) else none
  | _, _ => none
theorem om_addS : OpM X (binaryOp .Add) gAddS := by
  refine ⟨_, op_add_str, fun H S m x y v u w S' Q rl rx ry e k => ?_⟩
  unfold gAddS at e
  split at e
  · split at e
    · cases e
      unfold WR DR at rx ry
      exact ⟨_, _, rx, ry, by assumption, k H m _ rl .refl WR.str⟩
    · cases e
  · cases e
def gAddT : W → W → Sto → Option (W × Sto) := fun x y S => (W.tup x).bind fun xs => (W.tup y).bind fun ys => if xs.length + ys.length ≤ sizeLine then some (.d (.tup (xs ++ ys)), S) else none
theorem om_addT : OpM X (binaryOp .Add) gAddT := by
  refine ⟨_, op_catA, fun H S m x y v u w S' Q rl rx ry e k => ?_⟩
  unfold gAddT at e
  obtain ⟨xs, h1, e⟩ := bind_some e
  obtain ⟨ys, h2, e⟩ := bind_some e
  split at e
  · rename_i hz
    cases e
    obtain ⟨a, vs, rfl, ha, ra⟩ := W.tup_ok h1 rx
    obtain ⟨b, us, rfl, hb, rb⟩ := W.tup_ok h2 ry
    refine ⟨a, b, vs, us, rfl, rfl, ha, hb, by rw [DRs.length ra, DRs.length rb]; exact hz, fun z => ?_, fun z1 z2 => ?_, fun z1 z2 p hp => ?_⟩
    · have z := (DRs.nil_iff ra).mp z
      subst z
      exact k H m _ rl .refl (by unfold WR DR; exact ⟨b, us, rfl, hb, rb⟩)
    · have z := (DRs.nil_iff rb).mp z2
      subst z
      exact k H m _ rl .refl (by unfold WR DR; exact ⟨a, vs, rfl, ha, by simpa using ra⟩)
    · have g : Gr X.K H m (upd H p (.tup (vs ++ us))) m := .fresh hp
      exact k _ m _ (rl.fresh hp) g (by unfold WR DR; exact ⟨p, _, rfl, SqT.of upd_same, DRs.gr g (ra.append rb)⟩)
  · cases e
def gAddL (mk : Mk) : W → W → Sto → Option (W × Sto) := fun x y S => (W.listT S x).bind fun xs => (W.listT S y).bind fun ys => if xs.length + ys.length ≤ sizeLine then some (newL mk (xs ++ ys) S) else none
theorem om_addL (mk : Mk) : OpM X (binaryOp .Add) (gAddL mk) := by
  refine ⟨_, op_cat, fun H S m x y v u w S' Q rl rx ry e k => ?_⟩
  unfold gAddL at e
  obtain ⟨xs, h1, e⟩ := bind_some e
  obtain ⟨ys, h2, e⟩ := bind_some e
  split at e
  · rename_i hz
    obtain ⟨a, vs, rfl, ha, ra⟩ := W.listT_ok h1 rl rx
    obtain ⟨b, us, rfl, hb, rb⟩ := W.listT_ok h2 rl ry
    exact ⟨a, b, vs, us, rfl, rfl, ha, hb, by rw [DRs.length ra, DRs.length rb]; exact hz, newL_ok (Option.some.inj e) rl (ra.append rb) k⟩
  · cases e
def gAdd (mk : Mk) : W → W → Sto → Option (W × Sto) := gOr (gInt iAdd) (gOr gAddS (gOr gAddT (gAddL mk)))
theorem om_add (mk : Mk) : OpM X (binaryOp .Add) (gAdd mk) := om_addI.or (om_addS.or (om_addT.or (om_addL mk)))
theorem DRs.flat {xs : List D} {vs : List V} (h : DRs K H m xs vs) : ∀ n, DRs K H m (List.replicate n xs).flatten (List.replicate n vs).flatten
  | 0 => DRs.nil
  | n + 1 => by
    rw [List.replicate_succ, List.replicate_succ, List.flatten_cons, List.flatten_cons]
    exact h.append (DRs.flat h n)
def gMulL (mk : Mk) : W → W → Sto → Option (W × Sto) := fun x y S => (W.listT S x).bind fun xs => match y with
  | .d (.int k) => if -(2 ^ 63) ≤ k ∧ k < 2 ^ 63 ∧ xs.length * k.toNat ≤ sizeLine then some (newL mk (List.replicate k.toNat xs).flatten S) else none
  | _ => none
theorem om_mulL (mk : Mk) : OpM X (binaryOp .Mult) (gMulL mk) := by
  refine ⟨_, op_rep, fun H S m x y v u w S' Q rl rx ry e k => ?_⟩
  unfold gMulL at e
  obtain ⟨xs, h1, e⟩ := bind_some e
  split at e
  · split at e
    · rename_i i _ hz
      obtain ⟨a, vs, rfl, ha, ra⟩ := W.listT_ok h1 rl rx
      unfold WR DR at ry
      exact ⟨a, i, vs, rfl, ry, ha, hz.1, hz.2.1, by rw [DRs.length ra]; exact hz.2.2, newL_ok (Option.some.inj e) rl (ra.flat _) k⟩
    · cases e
  · cases e
def gMulT : W → W → Sto → Option (W × Sto) := fun x y S => (W.tup x).bind fun xs => match y with
  | .d (.int k) => if xs ≠ [] ∧ 2 ≤ k ∧ k ≤ 1000 ∧ xs.length ≤ 1000 then some (.d (.tup (List.replicate k.toNat xs).flatten), S) else none
  | _ => none
theorem om_mulT : OpM X (binaryOp .Mult) gMulT := by
  refine ⟨_, op_repT, fun H S m x y v u w S' Q rl rx ry e k => ?_⟩
  unfold gMulT at e
  obtain ⟨xs, h1, e⟩ := bind_some e
  split at e
  · split at e
    · rename_i i _ hz
      cases e
      obtain ⟨a, vs, rfl, ha, ra⟩ := W.tup_ok h1 rx
      unfold WR DR at ry
      refine ⟨a, i, vs, rfl, ry, ha, fun z => hz.1 ((DRs.nil_iff ra).mp z), hz.2.1, hz.2.2.1, by rw [DRs.length ra]; exact hz.2.2.2, fun p hp => ?_⟩
      have g : Gr X.K H m (upd H p (.tup (List.replicate i.toNat vs).flatten)) m := .fresh hp
      exact k _ m _ (rl.fresh hp) g (by unfold WR DR; exact ⟨p, _, rfl, SqT.of upd_same, DRs.gr g (ra.flat _)⟩)
    · cases e
  · cases e
def gMul (mk : Mk) : W → W → Sto → Option (W × Sto) := gOr (gInt iMul) (gOr gMulT (gMulL mk))
theorem om_mul (mk : Mk) : OpM X (binaryOp .Mult) (gMul mk) := om_mulI.or (om_mulT.or (om_mulL mk))

/-! ### == -/
mutual
def D.py : D → PyData
  | .non => .none
  | .bl b => .bool b
  | .int i => .int i
  | .str x => .str x
  | .tup xs => .tuple (D.pys xs)
  | .lst xs => .list (D.pys xs)
def D.pys : List D → List PyData
  | [] => []
  | x :: xs => D.py x :: D.pys xs
end
mutual
theorem DR.dp : ∀ {x : D} {v : V}, DR K H m x v → Dp K H v x.py
  | .non, v, h => by unfold DR at h; subst h; exact .non
  | .bl b, v, h => by unfold DR at h; subst h; exact .bl b
  | .int i, v, h => by unfold DR at h; subst h; exact .int i
  | .str x, v, h => by unfold DR at h; subst h; exact .str x
  | .tup xs, v, h => by
    unfold DR at h
    obtain ⟨a, vs, rfl, h1, h2⟩ := h
    exact .tup h1 (DRs.dp h2)
  | .lst xs, v, h => by
    unfold DR at h
    obtain ⟨a, vs, rfl, h1, _, h2⟩ := h
    exact .lst (SqL.of h1) (DRs.dp h2)
theorem DRs.dp : ∀ {xs : List D} {vs : List V}, DRs K H m xs vs → DpAll K H vs (D.pys xs)
  | [], vs, h => by unfold DRs at h; subst h; exact .nil
  | x :: xs, vs, h => by
    unfold DRs at h
    obtain ⟨v, vs', rfl, h1, h2⟩ := h
    exact .cons (DR.dp h1) (DRs.dp h2)
end
def W.py (S : Sto) : W → Option D
  | .d x => some x
  | w => (W.list S w).bind fun xs => some (.lst xs)
theorem W.py_ok {x : D} (e : W.py S w = some x) (rl : Rel K H m S) (r : WR K H m w v) : Dp K H v x.py := by
  unfold W.py at e
  split at e
  · cases e; exact DR.dp r
  · obtain ⟨xs, h1, e⟩ := bind_some e
    cases e
    obtain ⟨a, vs, rfl, h2, h3⟩ := W.list_ok h1 rl r
    exact .lst h2 (DRs.dp h3)
def D.shp (x : D) : Bool := SeqAt.shaped x.py
def D.eqv (x y : D) : Bool := PyData.eqv x.py y.py
def gEq : W → W → Sto → Option (W × Sto) := fun x y S => (W.py S x).bind fun a => (W.py S y).bind fun b => if a.shp = true ∧ b.shp = true then some (.d (.bl (a.eqv b)), S) else none
def gNe : W → W → Sto → Option (W × Sto) := fun x y S => (W.py S x).bind fun a => (W.py S y).bind fun b => if a.shp = true ∧ b.shp = true then some (.d (.bl (!a.eqv b)), S) else none
theorem om_eq {k : Nat} (hr : Room k X.A) : OpM X (compareOp .Eq) gEq := by
  refine ⟨_, op_eqD hr.units, fun H S m x y v u w S' Q rl rx ry e k => ?_⟩
  unfold gEq at e
  obtain ⟨a, h1, e⟩ := bind_some e
  obtain ⟨b, h2, e⟩ := bind_some e
  split at e
  · rename_i hz
    cases e
    exact ⟨_, _, W.py_ok h1 rl rx, W.py_ok h2 rl ry, hz.1, hz.2, k H m _ rl .refl WR.bl⟩
  · cases e
theorem om_ne {k : Nat} (hr : Room k X.A) : OpM X (compareOp .NotEq) gNe := by
  refine ⟨_, op_neD hr.units, fun H S m x y v u w S' Q rl rx ry e k => ?_⟩
  unfold gNe at e
  obtain ⟨a, h1, e⟩ := bind_some e
  obtain ⟨b, h2, e⟩ := bind_some e
  split at e
  · rename_i hz
    cases e
    exact ⟨_, _, W.py_ok h1 rl rx, W.py_ok h2 rl ry, hz.1, hz.2, k H m _ rl .refl WR.bl⟩
  · cases e

/-! ### is -/
def D.isNon : D → Bool
  | .non => true
  | _ => false
theorem DR.non_iff {x : D} {v : V} (h : DR K H m x v) : decide (v = .non) = x.isNon := by
  cases x <;> unfold DR at h
  · subst h; rfl
  · subst h; rfl
  · subst h; rfl
  · subst h; rfl
  · obtain ⟨a, vs, rfl, _⟩ := h; rfl
  · obtain ⟨a, vs, rfl, _⟩ := h; rfl
def W.isNon (S : Sto) : W → Option Bool
  | .d x => some x.isNon
  | w => (W.list S w).bind fun _ => some false
theorem W.isNon_ok {b : Bool} (e : W.isNon S w = some b) (rl : Rel K H m S) (r : WR K H m w v) : decide (v = .non) = b := by
  unfold W.isNon at e
  split at e
  · cases e; exact DR.non_iff r
  · obtain ⟨xs, h1, e⟩ := bind_some e
    cases e
    obtain ⟨a, vs, rfl, h2, h3⟩ := W.list_ok h1 rl r
    rfl
def gIsN : W → W → Sto → Option (W × Sto) := fun x y S => match y with
  | .d .non => (W.isNon S x).bind fun b => some (.d (.bl b), S)
  | _ => none
def gNotN : W → W → Sto → Option (W × Sto) := fun x y S => match y with
  | .d .non => (W.isNon S x).bind fun b => some (.d (.bl (!b)), S)
  | _ => none
theorem om_isN : OpM X (compareOp .Is) gIsN := by
  refine ⟨_, op_isN, fun H S m x y v u w S' Q rl rx ry e k => ?_⟩
  unfold gIsN at e
  split at e
  · obtain ⟨b, h1, e⟩ := bind_some e
    cases e
    unfold WR DR at ry
    exact ⟨ry, by rw [W.isNon_ok h1 rl rx]; exact k H m _ rl .refl WR.bl⟩
  · cases e
theorem om_notN : OpM X (compareOp .IsNot) gNotN := by
  refine ⟨_, op_notN, fun H S m x y v u w S' Q rl rx ry e k => ?_⟩
  unfold gNotN at e
  split at e
  · obtain ⟨b, h1, e⟩ := bind_some e
    cases e
    unfold WR DR at ry
    exact ⟨ry, by rw [W.isNon_ok h1 rl rx]; exact k H m _ rl .refl WR.bl⟩
  · cases e
def gIsB : W → W → Sto → Option (W × Sto) := fun x y S => match x, y with
  | .d (.bl a), .d (.bl b) => some (.d (.bl (decide (a = b))), S)
  | _, _ => none
theorem om_isB : OpM X (compareOp .Is) gIsB := by
  refine ⟨_, op_is_bl, fun H S m x y v u w S' Q rl rx ry e k => ?_⟩
  unfold gIsB at e
  split at e
  · cases e
    unfold WR DR at rx ry
    exact ⟨_, _, rx, ry, k H m _ rl .refl WR.bl⟩
  · cases e
theorem om_is : OpM X (compareOp .Is) (gOr gIsN gIsB) := om_isN.or om_isB

/-! ### in -/
def D.flat : D → Bool
  | .non => true
  | .bl _ => true
  | .int _ => true
  | .str _ => true
  | _ => false
theorem DR.flat {x : D} {v : V} (h : DR K H m x v) (f : x.flat = true) : flatV v = true := by
  cases x <;> unfold DR at h <;> first | (subst h; rfl) | cases f
theorem DR.eqV {x y : D} {v u : V} (h : DR K H m x v) (h' : DR K H m y u) (f : x.flat = true) (f' : y.flat = true) : L2.eqV v u = x.eqv y := by
  cases x <;> cases y <;> first | (cases f; done) | (cases f'; done) | (unfold DR at h h'; subst h h'; simp [L2.eqV, D.eqv, D.py, PyData.eqv])
theorem DRs.allFlat : ∀ {xs : List D} {vs : List V}, DRs K H m xs vs → xs.all D.flat = true → vs.all flatV = true
  | [], vs, h, _ => by unfold DRs at h; subst h; rfl
  | x :: xs, vs, h, f => by
    unfold DRs at h
    obtain ⟨v, vs', rfl, h1, h2⟩ := h
    rw [List.all_cons, Bool.and_eq_true] at f ⊢
    exact ⟨DR.flat h1 f.1, DRs.allFlat h2 f.2⟩
def inD (x : D) (xs : List D) : Bool := xs.any fun y => y.eqv x
theorem DRs.inV {x : D} {v : V} (h : DR K H m x v) (f : x.flat = true) : ∀ {xs : List D} {vs : List V}, DRs K H m xs vs → xs.all D.flat = true → L2.inV v vs = inD x xs
  | [], vs, h, _ => by unfold DRs at h; subst h; rfl
  | y :: xs, vs, h', f' => by
    unfold DRs at h'
    obtain ⟨u, vs', rfl, h1, h2⟩ := h'
    rw [List.all_cons, Bool.and_eq_true] at f'
    have ih := DRs.inV h f h2 f'.2
    unfold L2.inV inD at ih ⊢
    rw [List.any_cons, List.any_cons, ih, DR.eqV h1 h f'.1 f]
/-- a list or a tuple -/
def W.seq (S : Sto) (w : W) : Option (List D) := match W.list S w with
  | some xs => some xs
  | none => W.tup w
theorem W.seq_ok (e : W.seq S w = some xs) (rl : Rel K H m S) (r : WR K H m w v) : ∃ a vs, v = .ref a ∧ (SqL K H a vs ∨ SqT K H a vs) ∧ DRs K H m xs vs := by
  unfold W.seq at e
  split at e
  · rename_i ys e0
    cases e
    obtain ⟨a, vs, h1, h2, h3⟩ := W.list_ok e0 rl r
    exact ⟨a, vs, h1, .inl h2, h3⟩
  · obtain ⟨a, vs, h1, h2, h3⟩ := W.tup_ok e r
    exact ⟨a, vs, h1, .inr h2, h3⟩
def W.dat : W → Option D
  | .d x => some x
  | _ => none
def gIn (neg : Bool) : W → W → Sto → Option (W × Sto) := fun x y S => (W.dat x).bind fun z => (W.seq S y).bind fun ys => if z.flat = true ∧ ys.all D.flat = true then some (.d (.bl (if neg then !inD z ys else inD z ys)), S) else none
theorem W.dat_ok {x : D} (e : W.dat w = some x) (r : WR K H m w v) : DR K H m x v := by
  unfold W.dat at e
  split at e
  · cases e; exact r
  · cases e
theorem om_in : OpM X (compareOp .In) (gIn false) := by
  refine ⟨_, op_in_seq, fun H S m x y v u w S' Q rl rx ry e k => ?_⟩
  unfold gIn at e
  obtain ⟨z, h1, e⟩ := bind_some e
  obtain ⟨ys, h2, e⟩ := bind_some e
  split at e
  · rename_i hz
    cases e
    obtain ⟨a, vs, rfl, h3, h4⟩ := W.seq_ok h2 rl ry
    have rz := W.dat_ok h1 rx
    exact ⟨a, vs, rfl, h3, DR.flat rz hz.1, DRs.allFlat h4 hz.2, by rw [DRs.inV rz hz.1 h4 hz.2]; exact k H m _ rl .refl WR.bl⟩
  · cases e
theorem om_notIn : OpM X (compareOp .NotIn) (gIn true) := by
  refine ⟨_, op_notIn_seq, fun H S m x y v u w S' Q rl rx ry e k => ?_⟩
  unfold gIn at e
  obtain ⟨z, h1, e⟩ := bind_some e
  obtain ⟨ys, h2, e⟩ := bind_some e
  split at e
  · rename_i hz
    cases e
    obtain ⟨a, vs, rfl, h3, h4⟩ := W.seq_ok h2 rl ry
    have rz := W.dat_ok h1 rx
    exact ⟨a, vs, rfl, h3, DR.flat rz hz.1, DRs.allFlat h4 hz.2, by rw [DRs.inV rz hz.1 h4 hz.2]; exact k H m _ rl .refl WR.bl⟩
  · cases e
end
end MW
end
section
set_option maxRecDepth 100000
/-! MW, part d: subscripts, slices, built-ins, methods. -/
namespace MW
open PySem PySem.Spec L2
section
variable {X : Cx} {a b e : Expr} {fa fb f : ME} {pos : Pos} {es : List Expr} {ga : MA}

/-! ### subscripts -/
def gIx : W → W → Sto → Option (W × Sto) := fun x y S => match y with
  | .d (.int i) => (match x with
    | .d (.str s) => if s.length ≤ sizeLine then (atI s.cps.toList i).bind fun c => some (.d (.str ⟨#[c]⟩), S) else none
    | _ => (W.seq S x).bind fun xs => (atI xs i).bind fun z => some (.d z, S))
  | _ => none
theorem atI_get {K : PySem.W.Frag} {H : Hp} {m : Mp} {xs : List D} {vs : List V} {i : Int} {z : D} (h : DRs K H m xs vs) (e : atI xs i = some z) : ∃ v, atI vs i = some v ∧ DR K H m z v := by
  unfold atI at e ⊢
  rw [DRs.length h]
  cases q : ixN xs.length i with
  | none => rw [q] at e; cases e
  | some j =>
    rw [q] at e
    exact h.get e
theorem me_ix (ha : PE X a (tM X.K fa)) (hb : PE X b (tM X.K fb)) (hs : PlainIx b) : PE X (.Subscript a b pos) (tM X.K (mBin gIx fa fb)) := by
  refine PE.imp (pe_ix ix_seq ha hb hs) fun σ H Q ⟨env, S, m, w, S', er, rl, he, k⟩ => ?_
  refine t2 er rl he fun w1 z1 S2 H2 m2 x y rl2 g2 r1 r2 e => ?_
  unfold gIx at e
  split at e
  · unfold WR DR at r2
    rename_i i
    split at e
    · split at e
      · obtain ⟨c, h1, e⟩ := bind_some e
        cases e
        unfold WR DR at r1
        exact .inr (.inr ⟨_, _, c, r1, r2, by assumption, h1, k H2 m2 _ rl2 g2 WR.str⟩)
      · cases e
    · obtain ⟨xs, h1, e⟩ := bind_some e
      obtain ⟨z, h2, e⟩ := bind_some e
      cases e
      obtain ⟨p, vs, rfl, h3, h4⟩ := W.seq_ok h1 rl2 r1
      obtain ⟨v, h5, h6⟩ := atI_get h4 h2
      rcases h3 with h3 | h3
      · exact .inl ⟨p, vs, i, v, rfl, r2, h3, h5, k H2 m2 v rl2 g2 h6⟩
      · exact .inr (.inl ⟨p, vs, i, v, rfl, r2, h3, h5, k H2 m2 v rl2 g2 h6⟩)
  · cases e

/-! ### slices -/
def mNo : Env → Sto → Option (Option Int × Sto) := fun _ S => some (none, S)
def mSo (f : ME) : Env → Sto → Option (Option Int × Sto) := fun env S => (f env S).bind fun p => match p.1 with
  | .d (.int i) => some (some i, p.2)
  | _ => none
def tMO (K : PySem.W.Frag) (f : Env → Sto → Option (Option Int × Sto)) : TO := fun σ H Q => ∃ env S m w S', ER K H m env σ ∧ Rel K H m S ∧ f env S = some (w, S') ∧ ∀ H' m', Rel K H' m' S' → Gr K H m H' m' → Q w H'
theorem PO.imp {e : Option Expr} {t t' : TO} (h : PO X e t) (k : ∀ σ H Q, t' σ H Q → t σ H Q) : PO X e t' := ⟨fun pins s σ H Q I q => h.run pins s σ H Q I (k σ H Q q)⟩
theorem mo_no : PO X none (tMO X.K mNo) := PO.imp po_none fun σ H Q ⟨env, S, m, w, S', er, rl, he, k⟩ => by
  cases he
  exact k H m rl .refl
theorem mo_so (h : PE X e (tM X.K f)) : PO X (some e) (tMO X.K (mSo f)) := PO.imp (po_some h) fun σ H Q ⟨env, S, m, w, S', er, rl, he, k⟩ => by
  unfold mSo at he
  obtain ⟨⟨p, S1⟩, h1, he⟩ := bind_some he
  split at he
  · rename_i i e0
    have e0 : p = .d (.int i) := e0
    subst e0
    cases he
    refine ⟨env, S, m, _, _, er, rl, h1, fun H1 m1 x rl1 g1 r1 => ?_⟩
    unfold WR DR at r1
    exact ⟨i, r1, k H1 m1 rl1 g1⟩
  · cases he
def cutD (xs : List D) (lo hi : Option Int) : List D := (xs.drop (HT.sIx xs.length 0 lo)).take (HT.sIx xs.length xs.length hi - HT.sIx xs.length 0 lo)
theorem DRs.cut {K : PySem.W.Frag} {H : Hp} {m : Mp} {xs : List D} {vs : List V} (h : DRs K H m xs vs) (lo hi : Option Int) : DRs K H m (cutD xs lo hi) (cutV vs lo hi) := by
  unfold cutD cutV
  rw [DRs.length h]
  exact (h.drop _).take _
def gSl (mk : Mk) : W → Option Int → Option Int → Sto → Option (W × Sto) := fun x lo hi S => match x with
  | .d (.tup xs) => some (.d (.tup (cutD xs lo hi)), S)
  | .d (.str s) => if s.length ≤ sizeLine then some (.d (.str (cutS s lo hi)), S) else none
  | _ => (W.list S x).bind fun xs => some (newL mk (cutD xs lo hi) S)
def mSl (mk : Mk) (f : ME) (fl fh : Env → Sto → Option (Option Int × Sto)) : ME := fun env S => (f env S).bind fun p => (fl env p.2).bind fun q => (fh env q.2).bind fun r => gSl mk p.1 q.1 r.1 r.2
theorem me_sl (mk : Mk) {lo hi : Option Expr} {p2 : Pos} {fl fh : Env → Sto → Option (Option Int × Sto)} (he : PE X e (tM X.K f)) (hl : PO X lo (tMO X.K fl)) (hh : PO X hi (tMO X.K fh)) :
    PE X (.Subscript e (.Slice lo hi none p2) pos) (tM X.K (mSl mk f fl fh)) := by
  refine PE.imp (pe_slice (sl_list.or (sl_tupA.or sl_str)) he hl hh) fun σ H Q ⟨env, S, m, w, S', er, rl, he, k⟩ => ?_
  unfold mSl at he
  obtain ⟨⟨w1, S1⟩, h1, he⟩ := bind_some he
  obtain ⟨⟨l, S2⟩, h2, he⟩ := bind_some he
  obtain ⟨⟨u, S3⟩, h3, he⟩ := bind_some he
  refine ⟨env, S, m, w1, S1, er, rl, h1, fun H1 m1 x rl1 g1 r1 => ⟨env, S1, m1, l, S2, er.gr g1, rl1, h2, fun H2 m2 rl2 g2 => ⟨env, S2, m2, u, S3, (er.gr g1).gr g2, rl2, h3, fun H3 m3 rl3 g3 => ?_⟩⟩⟩
  have r3 := (r1.gr g2).gr g3
  have g := (g1.trans g2).trans g3
  unfold gSl at he
  dsimp only at he
  split at he
  · cases he
    obtain ⟨a, vs, rfl, h4, h5⟩ := W.tup_ok (w := W.d (.tup _)) rfl r3
    refine .inr (.inl ⟨a, vs, rfl, h4, fun z => ?_, fun z p hp => ?_⟩)
    · refine k H3 m3 _ rl3 g ?_
      unfold WR DR
      refine ⟨a, vs, rfl, h4, ?_⟩
      have z1 := h5.cut l u
      have : cutV vs l u = vs := by
        unfold cutV
        rw [z.1, z.2]
        simp
      rw [this] at z1
      exact z1
    · have g' : Gr X.K H3 m3 (upd H3 p (.tup (cutV vs l u))) m3 := .fresh hp
      exact k _ m3 _ (rl3.fresh hp) (g.trans g') (by unfold WR DR; exact ⟨p, _, rfl, SqT.of upd_same, DRs.gr g' (h5.cut l u)⟩)
  · split at he
    · cases he
      unfold WR DR at r3
      exact .inr (.inr ⟨_, r3, by assumption, k H3 m3 _ rl3 g WR.str⟩)
    · cases he
  · obtain ⟨xs, h4, he⟩ := bind_some he
    obtain ⟨a, vs, rfl, h5, h6⟩ := W.list_ok h4 rl3 r3
    exact .inl ⟨a, vs, rfl, h5, newL_ok (Option.some.inj he) rl3 (h6.cut l u) fun H' m' v rl' g' => k H' m' v rl' (g.trans g')⟩

/-! ### calls of built-ins by value -/
def CallM (X : Cx) (f : Value) (g : List W → Sto → Option (W × Sto)) : Prop :=
  ∃ r, CallR X f r ∧ ∀ (H : Hp) (S : Sto) (m : Mp) (ws : List W) (vs : List V) (w : W) (S' : Sto) (Q : VK), Rel X.K H m S → WRs X.K H m ws vs → g ws S = some (w, S') →
    (∀ H' m' z, Rel X.K H' m' S' → Gr X.K H m H' m' → WR X.K H' m' w z → Q z H') → r vs H Q
def mCall (g : List W → Sto → Option (W × Sto)) (ga : MA) : ME := fun env S => (ga env S).bind fun p => g p.1 p.2
theorem tCB_of {g : List W → Sto → Option (W × Sto)} {r : List V → Hp → VK → Prop} {σ : St} {H : Hp} {Q : VK} (q : ∀ (H : Hp) (S : Sto) (m : Mp) (ws : List W) (vs : List V) (w : W) (S' : Sto) (Q : VK), Rel X.K H m S → WRs X.K H m ws vs → g ws S = some (w, S') →
    (∀ H' m' z, Rel X.K H' m' S' → Gr X.K H m H' m' → WR X.K H' m' w z → Q z H') → r vs H Q) (h : tM X.K (mCall g ga) σ H Q) : tMA X.K ga σ H fun vs H1 => r vs H1 Q := by
  obtain ⟨env, S, m, w, S', er, rl, he, k⟩ := h
  unfold mCall at he
  obtain ⟨⟨ws, S1⟩, h1, he⟩ := bind_some he
  exact ⟨env, S, m, ws, S1, er, rl, h1, fun H1 m1 vs rl1 g1 r1 => q H1 S1 m1 ws vs w S' Q rl1 r1 he fun H' m' z rl' g' => k H' m' z rl' (g1.trans g')⟩
theorem me_callB {g : List W → Sto → Option (W × Sto)} {x : Str} {id : String} {p : Pos} (hc : CallM X (.builtin id) g) (hg : Gl X x) (hm : X.mg x = none) (hv : bootBuiltins x = some (.builtin id)) (ha : PA X (e :: es) (tMA X.K ga)) (hn : x ≠ "__name__" := by decide) (hdb : (x == ("__debug__" : Str)) = false := by decide)
    (he : starEach (e :: es) X.env = (false, eval e X.env) :: starEach es X.env := by rfl) (hpl : (backTo pos (starEach es X.env)).any (·.1) = false := by rfl) : PE X (.Call (.Name x p) (e :: es) [] pos) (tM X.K (mCall g ga)) := by
  obtain ⟨r, c, q⟩ := hc
  exact PE.imp (pe_callB c hg hm hv ha hn hdb he hpl) fun σ H Q h => tCB_of q h
theorem me_callTy {g : List W → Sto → Option (W × Sto)} {x : Str} {T : String} {p : Pos} (hc : CallM X (.type T) g) (hg : Gl X x) (hm : X.mg x = none) (hv : bootBuiltins x = some (.type T)) (ha : PA X (e :: es) (tMA X.K ga)) (hn : x ≠ "__name__" := by decide) (hdb : (x == ("__debug__" : Str)) = false := by decide)
    (he : starEach (e :: es) X.env = (false, eval e X.env) :: starEach es X.env := by rfl) (hpl : (backTo pos (starEach es X.env)).any (·.1) = false := by rfl) : PE X (.Call (.Name x p) (e :: es) [] pos) (tM X.K (mCall g ga)) := by
  obtain ⟨r, c, q⟩ := hc
  exact PE.imp (pe_callTy c hg hm hv ha hn hdb he hpl) fun σ H Q h => tCB_of q h
theorem WRs.one {K : PySem.W.Frag} {H : Hp} {m : Mp} {w : W} {vs : List V} (h : WRs K H m [w] vs) : ∃ v, vs = [v] ∧ WR K H m w v := by
  obtain ⟨v, vs', rfl, h1, h2⟩ := h
  unfold WRs at h2
  subst h2
  exact ⟨v, rfl, h1⟩
theorem WRs.two {K : PySem.W.Frag} {H : Hp} {m : Mp} {w z : W} {vs : List V} (h : WRs K H m [w, z] vs) : ∃ v u, vs = [v, u] ∧ WR K H m w v ∧ WR K H m z u := by
  obtain ⟨v, vs', rfl, h1, h2⟩ := h
  obtain ⟨u, e, h3⟩ := WRs.one h2
  subst e
  exact ⟨v, u, rfl, h1, h3⟩
/-- len -/
def gLen : List W → Sto → Option (W × Sto) := fun ws S => match ws with
  | [.d (.str s)] => if s.length ≤ sizeLine then some (.d (.int s.length), S) else none
  | [w] => (W.seq S w).bind fun xs => some (.d (.int xs.length), S)
  | _ => none
theorem cm_len : CallM X (.builtin "len") gLen := by
  refine ⟨_, call_len, fun H S m ws vs w S' Q rl rs e k => ?_⟩
  unfold gLen at e
  split at e
  · split at e
    · cases e
      obtain ⟨v, rfl, r⟩ := WRs.one rs
      unfold WR DR at r
      subst r
      rename_i s hz
      exact ⟨.str s, s.length, rfl, ⟨hz, rfl⟩, k H m _ rl .refl WR.int⟩
    · cases e
  · obtain ⟨xs, h1, e⟩ := bind_some e
    cases e
    obtain ⟨v, rfl, r⟩ := WRs.one rs
    obtain ⟨a, us, rfl, h2, h3⟩ := W.seq_ok h1 rl r
    refine ⟨.ref a, xs.length, rfl, ?_, k H m _ rl .refl WR.int⟩
    rcases h2 with h2 | h2
    · exact .inl ⟨us, h2, (DRs.length h3).symm⟩
    · exact .inr ⟨us, h2, (DRs.length h3).symm⟩
  · cases e
def gAbs : List W → Sto → Option (W × Sto) := fun ws S => match ws with
  | [.d (.int i)] => some (.d (.int (if i < 0 then -i else i)), S)
  | _ => none
theorem cm_abs : CallM X (.builtin "abs") gAbs := by
  refine ⟨_, call_abs, fun H S m ws vs w S' Q rl rs e k => ?_⟩
  unfold gAbs at e
  split at e
  · cases e
    obtain ⟨v, rfl, r⟩ := WRs.one rs
    unfold WR DR at r
    subst r
    exact ⟨_, rfl, k H m _ rl .refl WR.int⟩
  · cases e
def gToInt : List W → Sto → Option (W × Sto) := fun ws S => match ws with
  | [.d (.int i)] => some (.d (.int i), S)
  | [.d (.bl b)] => some (.d (.int (if b then 1 else 0)), S)
  | _ => none
theorem cm_int : CallM X (.type "int") gToInt := by
  refine ⟨_, call_int1, fun H S m ws vs w S' Q rl rs e k => ?_⟩
  unfold gToInt at e
  split at e
  · cases e
    obtain ⟨v, rfl, r⟩ := WRs.one rs
    unfold WR DR at r
    subst r
    exact .inl ⟨_, rfl, k H m _ rl .refl WR.int⟩
  · cases e
    obtain ⟨v, rfl, r⟩ := WRs.one rs
    unfold WR DR at r
    subst r
    exact .inr ⟨_, rfl, k H m _ rl .refl WR.int⟩
  · cases e
def gMax2 : List W → Sto → Option (W × Sto) := fun ws S => match ws with
  | [.d (.int i), .d (.int j)] => some (.d (.int (if j > i then j else i)), S)
  | _ => none
def gMin2 : List W → Sto → Option (W × Sto) := fun ws S => match ws with
  | [.d (.int i), .d (.int j)] => some (.d (.int (if j < i then j else i)), S)
  | _ => none
theorem cm_max2 (hc : X.calm = true) : CallM X (.builtin "max") gMax2 := by
  refine ⟨_, call_max2 hc, fun H S m ws vs w S' Q rl rs e k => ?_⟩
  unfold gMax2 at e
  split at e
  · cases e
    obtain ⟨v, u, rfl, r, r'⟩ := WRs.two rs
    unfold WR DR at r r'
    subst r r'
    exact ⟨_, _, rfl, k H m _ rl .refl WR.int⟩
  · cases e
theorem cm_min2 (hc : X.calm = true) : CallM X (.builtin "min") gMin2 := by
  refine ⟨_, call_min2 hc, fun H S m ws vs w S' Q rl rs e k => ?_⟩
  unfold gMin2 at e
  split at e
  · cases e
    obtain ⟨v, u, rfl, r, r'⟩ := WRs.two rs
    unfold WR DR at r r'
    subst r r'
    exact ⟨_, _, rfl, k H m _ rl .refl WR.int⟩
  · cases e
/-- whole numbers all -/
def intsD : List D → Option (List Int)
  | [] => some []
  | .int i :: xs => (intsD xs).bind fun is => some (i :: is)
  | _ :: _ => none
theorem ints_eq : ∀ {xs : List D} {is : List Int}, intsD xs = some is → xs = is.map D.int
  | [], is, h => by cases h; rfl
  | .int i :: xs, is, h => by
    unfold intsD at h
    obtain ⟨js, h1, h⟩ := bind_some h
    cases h
    rw [ints_eq h1]; rfl
  | .non :: xs, is, h => by cases h
  | .bl _ :: xs, is, h => by cases h
  | .str _ :: xs, is, h => by cases h
  | .tup _ :: xs, is, h => by cases h
  | .lst _ :: xs, is, h => by cases h
theorem ints_map (is : List Int) : intsD (is.map D.int) = some is := by
  induction is with
  | nil => rfl
  | cons i is ih => show (intsD (is.map D.int)).bind _ = _; rw [ih]; rfl
def boolsD : List D → Option (List Bool)
  | [] => some []
  | .bl i :: xs => (boolsD xs).bind fun is => some (i :: is)
  | _ :: _ => none
theorem bools_eq : ∀ {xs : List D} {is : List Bool}, boolsD xs = some is → xs = is.map D.bl
  | [], is, h => by cases h; rfl
  | .bl i :: xs, is, h => by
    unfold boolsD at h
    obtain ⟨js, h1, h⟩ := bind_some h
    cases h
    rw [bools_eq h1]; rfl
  | .non :: xs, is, h => by cases h
  | .int _ :: xs, is, h => by cases h
  | .str _ :: xs, is, h => by cases h
  | .tup _ :: xs, is, h => by cases h
  | .lst _ :: xs, is, h => by cases h
theorem bools_map (is : List Bool) : boolsD (is.map D.bl) = some is := by
  induction is with
  | nil => rfl
  | cons i is ih => show (boolsD (is.map D.bl)).bind _ = _; rw [ih]; rfl
theorem DRs.bls {K : PySem.W.Frag} {H : Hp} {m : Mp} {ns : List Bool} : ∀ {vs : List V}, DRs K H m (ns.map D.bl) vs → vs = ns.map V.bl := by
  induction ns with
  | nil => intro vs h; exact h
  | cons n ns ih =>
    intro vs h
    simp only [List.map_cons] at h
    unfold DRs at h
    obtain ⟨v, vs', rfl, h1, h2⟩ := h
    unfold DR at h1
    subst h1
    rw [ih h2]; rfl
/-- a function of a list of numbers -/
def gIs (g : List Int → Option D) : List W → Sto → Option (W × Sto) := fun ws S => match ws with
  | [w] => (W.list S w).bind fun xs => (intsD xs).bind fun is => (g is).bind fun z => some (.d z, S)
  | _ => none
theorem cm_sum (hc : X.calm = true) : CallM X (.builtin "sum") (gIs fun is => some (.int is.sum)) := by
  refine ⟨_, cr_sum hc, fun H S m ws vs w S' Q rl rs e k => ?_⟩
  unfold gIs at e
  split at e
  · obtain ⟨xs, h1, e⟩ := bind_some e
    obtain ⟨is, h2, e⟩ := bind_some e
    cases e
    obtain ⟨v, rfl, r⟩ := WRs.one rs
    obtain ⟨a, us, rfl, h3, h4⟩ := W.list_ok h1 rl r
    rw [ints_eq h2] at h4
    rw [DRs.ints.mp h4] at h3
    exact ⟨a, is, rfl, h3, k H m _ rl .refl WR.int⟩
  · cases e
def mostI : List Int → Option D
  | [] => none
  | i :: is => some (.int (is.foldl max i))
def leastI : List Int → Option D
  | [] => none
  | i :: is => some (.int (is.foldl min i))
theorem foldl_max : ∀ (is : List Int) (i : Int), (is.foldl max i = i ∨ is.foldl max i ∈ is) ∧ i ≤ is.foldl max i ∧ ∀ j ∈ is, j ≤ is.foldl max i
  | [], i => ⟨.inl rfl, Int.le_refl _, fun j h => nomatch h⟩
  | k :: is, i => by
    obtain ⟨h1, h2, h3⟩ := foldl_max is (max i k)
    show ((is.foldl max (max i k) = i ∨ is.foldl max (max i k) ∈ k :: is) ∧ i ≤ is.foldl max (max i k) ∧ ∀ j ∈ k :: is, j ≤ is.foldl max (max i k))
    refine ⟨?_, by omega, fun j hj => ?_⟩
    · rcases h1 with h1 | h1
      · rw [h1]
        by_cases c : i ≤ k
        · right; rw [Int.max_eq_right c]; simp
        · left; omega
      · right; exact List.mem_cons_of_mem _ h1
    · rcases List.mem_cons.mp hj with rfl | hj
      · omega
      · exact h3 j hj
theorem foldl_min : ∀ (is : List Int) (i : Int), (is.foldl min i = i ∨ is.foldl min i ∈ is) ∧ is.foldl min i ≤ i ∧ ∀ j ∈ is, is.foldl min i ≤ j
  | [], i => ⟨.inl rfl, Int.le_refl _, fun j h => nomatch h⟩
  | k :: is, i => by
    obtain ⟨h1, h2, h3⟩ := foldl_min is (min i k)
    show ((is.foldl min (min i k) = i ∨ is.foldl min (min i k) ∈ k :: is) ∧ is.foldl min (min i k) ≤ i ∧ ∀ j ∈ k :: is, is.foldl min (min i k) ≤ j)
    refine ⟨?_, by omega, fun j hj => ?_⟩
    · rcases h1 with h1 | h1
      · rw [h1]
        by_cases c : k ≤ i
        · right; rw [Int.min_eq_right c]; simp
        · left; omega
      · right; exact List.mem_cons_of_mem _ h1
    · rcases List.mem_cons.mp hj with rfl | hj
      · omega
      · exact h3 j hj
theorem cm_maxL (hc : X.calm = true) : CallM X (.builtin "max") (gIs mostI) := by
  refine ⟨_, cr_max hc, fun H S m ws vs w S' Q rl rs e k => ?_⟩
  unfold gIs at e
  split at e
  · obtain ⟨xs, h1, e⟩ := bind_some e
    obtain ⟨is, h2, e⟩ := bind_some e
    obtain ⟨z, h5, e⟩ := bind_some e
    cases e
    obtain ⟨v, rfl, r⟩ := WRs.one rs
    obtain ⟨a, us, rfl, h3, h4⟩ := W.list_ok h1 rl r
    rw [ints_eq h2] at h4
    rw [DRs.ints.mp h4] at h3
    cases is with
    | nil => cases h5
    | cons i is =>
      cases h5
      obtain ⟨q1, q2, q3⟩ := foldl_max is i
      refine ⟨a, _, rfl, h3, by simp, fun n hn hle => ?_⟩
      have : n = is.foldl max i := by
        have z1 : is.foldl max i ≤ n := by
          rcases q1 with q1 | q1
          · rw [q1]; exact hle i (by simp)
          · exact hle _ (List.mem_cons_of_mem _ q1)
        have z2 : n ≤ is.foldl max i := by
          rcases List.mem_cons.mp hn with rfl | hn
          · exact q2
          · exact q3 n hn
        omega
      rw [this]
      exact k H m _ rl .refl WR.int
  · cases e
theorem cm_minL (hc : X.calm = true) : CallM X (.builtin "min") (gIs leastI) := by
  refine ⟨_, cr_min hc, fun H S m ws vs w S' Q rl rs e k => ?_⟩
  unfold gIs at e
  split at e
  · obtain ⟨xs, h1, e⟩ := bind_some e
    obtain ⟨is, h2, e⟩ := bind_some e
    obtain ⟨z, h5, e⟩ := bind_some e
    cases e
    obtain ⟨v, rfl, r⟩ := WRs.one rs
    obtain ⟨a, us, rfl, h3, h4⟩ := W.list_ok h1 rl r
    rw [ints_eq h2] at h4
    rw [DRs.ints.mp h4] at h3
    cases is with
    | nil => cases h5
    | cons i is =>
      cases h5
      obtain ⟨q1, q2, q3⟩ := foldl_min is i
      refine ⟨a, _, rfl, h3, by simp, fun n hn hle => ?_⟩
      have : n = is.foldl min i := by
        have z1 : n ≤ is.foldl min i := by
          rcases q1 with q1 | q1
          · rw [q1]; exact hle i (by simp)
          · exact hle _ (List.mem_cons_of_mem _ q1)
        have z2 : is.foldl min i ≤ n := by
          rcases List.mem_cons.mp hn with rfl | hn
          · exact q2
          · exact q3 n hn
        omega
      rw [this]
      exact k H m _ rl .refl WR.int
  · cases e
def gBs (g : List Bool → Bool) : List W → Sto → Option (W × Sto) := fun ws S => match ws with
  | [w] => (W.list S w).bind fun xs => (boolsD xs).bind fun is => some (.d (.bl (g is)), S)
  | _ => none
theorem cm_all (hc : X.calm = true) : CallM X (.builtin "all") (gBs fun is => is.all id) := by
  refine ⟨_, cr_all hc, fun H S m ws vs w S' Q rl rs e k => ?_⟩
  unfold gBs at e
  split at e
  · obtain ⟨xs, h1, e⟩ := bind_some e
    obtain ⟨is, h2, e⟩ := bind_some e
    cases e
    obtain ⟨v, rfl, r⟩ := WRs.one rs
    obtain ⟨a, us, rfl, h3, h4⟩ := W.list_ok h1 rl r
    rw [bools_eq h2] at h4
    rw [DRs.bls h4] at h3
    exact ⟨a, is, rfl, h3, k H m _ rl .refl WR.bl⟩
  · cases e
theorem cm_any (hc : X.calm = true) : CallM X (.builtin "any") (gBs fun is => is.any id) := by
  refine ⟨_, cr_any hc, fun H S m ws vs w S' Q rl rs e k => ?_⟩
  unfold gBs at e
  split at e
  · obtain ⟨xs, h1, e⟩ := bind_some e
    obtain ⟨is, h2, e⟩ := bind_some e
    cases e
    obtain ⟨v, rfl, r⟩ := WRs.one rs
    obtain ⟨a, us, rfl, h3, h4⟩ := W.list_ok h1 rl r
    rw [bools_eq h2] at h4
    rw [DRs.bls h4] at h3
    exact ⟨a, is, rfl, h3, k H m _ rl .refl WR.bl⟩
  · cases e
/-- list(xs), tuple(xs) -/
def gListOf (mk : Mk) : List W → Sto → Option (W × Sto) := fun ws S => match ws with
  | [w] => (W.seq S w).bind fun xs => some (newL mk xs S)
  | _ => none
theorem cm_list (mk : Mk) : CallM X (.type "list") (gListOf mk) := by
  refine ⟨_, call_list_of, fun H S m ws vs w S' Q rl rs e k => ?_⟩
  unfold gListOf at e
  split at e
  · obtain ⟨xs, h1, e⟩ := bind_some e
    obtain ⟨v, rfl, r⟩ := WRs.one rs
    obtain ⟨a, us, rfl, h3, h4⟩ := W.seq_ok h1 rl r
    exact ⟨a, us, rfl, h3, newL_ok (Option.some.inj e) rl h4 k⟩
  · cases e
def gTupOf : List W → Sto → Option (W × Sto) := fun ws S => match ws with
  | [w] => (W.seq S w).bind fun xs => some (.d (.tup xs), S)
  | _ => none
theorem cm_tuple : CallM X (.type "tuple") gTupOf := by
  refine ⟨_, call_tuple_of, fun H S m ws vs w S' Q rl rs e k => ?_⟩
  unfold gTupOf at e
  split at e
  · obtain ⟨xs, h1, e⟩ := bind_some e
    cases e
    obtain ⟨v, rfl, r⟩ := WRs.one rs
    obtain ⟨a, us, rfl, h3, h4⟩ := W.seq_ok h1 rl r
    refine ⟨a, us, rfl, ?_⟩
    rcases h3 with h3 | h3
    · refine .inl ⟨h3, fun p hp => ?_⟩
      have g' : Gr X.K H m (upd H p (.tup us)) m := .fresh hp
      exact k _ m _ (rl.fresh hp) g' (by unfold WR DR; exact ⟨p, _, rfl, SqT.of upd_same, DRs.gr g' h4⟩)
    · exact .inr ⟨h3, k H m _ rl .refl (by unfold WR DR; exact ⟨a, us, rfl, h3, h4⟩)⟩
  · cases e
end
end MW
end
section
set_option maxRecDepth 100000
/-! MW, part e: isinstance, methods, targets, statements, loops. -/
namespace MW
open PySem PySem.Spec L2
section
variable {X : Cx} {a b e o : Expr} {fa fb f fo fi : ME} {pos : Pos} {es : List Expr} {ga : MA}

/-! ### isinstance -/
def tyD : D → String
  | .non => "NoneType"
  | .bl _ => "bool"
  | .int _ => "int"
  | .str _ => "str"
  | .tup _ => "tuple"
  | .lst _ => "list"
def W.ty (S : Sto) : W → Option String
  | .d x => some (tyD x)
  | w => (W.list S w).bind fun _ => some "list"
theorem SqL.tyx {K : PySem.W.Frag} {H : Hp} {a : Addr} {xs : List V} (h : SqL K H a xs) : TyX K H (.ref a) (.type "list") := by
  rcases h with (h | ⟨o, h⟩) | ⟨o, its, n, h, c, _⟩
  · exact .base (.lst h)
  · exact .base (.frz h)
  · exact .kList h c
theorem SqT.tyx {K : PySem.W.Frag} {H : Hp} {a : Addr} {xs : List V} (h : SqT K H a xs) : TyX K H (.ref a) (.type "tuple") := by
  rcases h with (h | ⟨o, h⟩) | ⟨o, its, n, h, c, _⟩
  · exact .base (.tup h)
  · exact .fTuple h
  · exact .kTuple h c
theorem DR.tyx {K : PySem.W.Frag} {H : Hp} {m : Mp} {x : D} {v : V} (h : DR K H m x v) : TyX K H v (.type (tyD x)) := by
  cases x <;> unfold DR at h
  · subst h; exact .base .non
  · subst h; exact .base (.bl _)
  · subst h; exact .base (.int _)
  · subst h; exact .base (.str _)
  · obtain ⟨a, vs, rfl, h, _⟩ := h; exact SqT.tyx h
  · obtain ⟨a, vs, rfl, h, _⟩ := h; exact SqL.tyx (SqL.of h)
theorem W.ty_ok {K : PySem.W.Frag} {H : Hp} {m : Mp} {S : Sto} {w : W} {v : V} {t : String} (e : W.ty S w = some t) (rl : Rel K H m S) (r : WR K H m w v) : TyX K H v (.type t) := by
  unfold W.ty at e
  split at e
  · cases e; exact DR.tyx r
  · obtain ⟨xs, h1, e⟩ := bind_some e
    cases e
    obtain ⟨a, vs, rfl, h2, _⟩ := W.list_ok h1 rl r
    exact SqL.tyx h2
/-- a built-in class among others: is a thing of the type t one of T? -/
def isT (t T : String) : Bool := t == T || (t == "bool" && T == "int")
def kitOk (T : String) : Bool := ["NoneType", "bool", "int", "str", "tuple", "list"].all fun t => kitB t T == some (isT t T)
theorem tys_mem {S : Sto} {w : W} {t : String} (e : W.ty S w = some t) : t ∈ ["NoneType", "bool", "int", "str", "tuple", "list"] := by
  unfold W.ty at e
  split at e
  · cases e
    rename_i x
    cases x <;> simp [tyD]
  · obtain ⟨xs, h1, e⟩ := bind_some e
    cases e
    decide
def gIsi (T : String) : W → Sto → Option (W × Sto) := fun w S => (W.ty S w).bind fun t => some (.d (.bl (isT t T)), S)
theorem me_isi {x c : Str} {p pc : Pos} {T : String} (hg : Gl X x) (hm : X.mg x = none) (hv : bootBuiltins x = some (.builtin "isinstance")) (hgc : Gl X c) (hmc : X.mg c = none) (hvc : bootBuiltins c = some (.type T)) (hk : kitOk T = true) (ha : PE X a (tM X.K fa))
    (hn : x ≠ "__name__" := by decide) (hdb : (x == ("__debug__" : Str)) = false := by decide) (hn' : c ≠ "__name__" := by decide) (hdb' : (c == ("__debug__" : Str)) = false := by decide) (hst : starEach [a, .Name c pc] X.env = (false, eval a X.env) :: starEach [.Name c pc] X.env := by rfl) : PE X (.Call (.Name x p) [a, .Name c pc] [] pos) (tM X.K (mUn (gIsi T) fa)) := by
  refine PE.imp (pe_callB call_isi hg hm hv (pa_cons ha (pa_cons (pe_bltn (v := .ty T) hgc hmc hvc rfl hn' hdb') pa_nil) hst) hn hdb hst) fun σ H Q ⟨env, S, m, w, S', er, rl, he, k⟩ => ?_
  unfold mUn at he
  obtain ⟨⟨w1, S1⟩, h1, he⟩ := bind_some he
  refine ⟨env, S, m, w1, S1, er, rl, h1, fun H1 m1 v rl1 g1 r1 => ?_⟩
  unfold gIsi at he
  obtain ⟨t, h2, he⟩ := bind_some he
  cases he
  have hb : kitB t T = some (isT t T) := by
    have := List.all_eq_true.mp hk t (tys_mem h2)
    simpa using this
  exact ⟨v, .ty T, .type t, .type T, isT t T, rfl, .ty T, W.ty_ok h2 rl1 r1, hb, k H1 m1 _ rl1 g1 WR.bl⟩
def gIsi2 (T T' : String) : W → Sto → Option (W × Sto) := fun w S => (W.ty S w).bind fun t => some (.d (.bl (isT t T || isT t T')), S)
theorem me_isi2 {x c c' : Str} {p pc pc' pt : Pos} {jt : Nat} {T T' : String} (hg : Gl X x) (hm : X.mg x = none) (hv : bootBuiltins x = some (.builtin "isinstance")) (hgc : Gl X c) (hmc : X.mg c = none) (hvc : bootBuiltins c = some (.type T)) (hk : kitOk T = true)
    (hgc' : Gl X c') (hmc' : X.mg c' = none) (hvc' : bootBuiltins c' = some (.type T')) (hk' : kitOk T' = true) (ha : PE X a (tM X.K fa))
    (hn : x ≠ "__name__" := by decide) (hdb : (x == ("__debug__" : Str)) = false := by decide) (hn' : c ≠ "__name__" := by decide) (hdb' : (c == ("__debug__" : Str)) = false := by decide) (hn2 : c' ≠ "__name__" := by decide) (hdb2 : (c' == ("__debug__" : Str)) = false := by decide)
    (hst : starEach [a, .Tuple [.Name c pc, .Name c' pc'] jt pt] X.env = (false, eval a X.env) :: starEach [.Tuple [.Name c pc, .Name c' pc'] jt pt] X.env := by rfl) :
    PE X (.Call (.Name x p) [a, .Tuple [.Name c pc, .Name c' pc'] jt pt] [] pos) (tM X.K (mUn (gIsi2 T T') fa)) := by
  refine PE.imp (pe_callB call_isiT hg hm hv (pa_cons ha (pa_cons (pe_tup (pa_cons (pe_bltn (v := .ty T) hgc hmc hvc rfl hn' hdb') (pa_cons (pe_bltn (v := .ty T') hgc' hmc' hvc' rfl hn2 hdb2) pa_nil))) pa_nil) hst) hn hdb hst) fun σ H Q ⟨env, S, m, w, S', er, rl, he, k⟩ => ?_
  unfold mUn at he
  obtain ⟨⟨w1, S1⟩, h1, he⟩ := bind_some he
  refine ⟨env, S, m, w1, S1, er, rl, h1, fun H1 m1 v rl1 g1 r1 => ?_⟩
  unfold gIsi2 at he
  obtain ⟨t, h2, he⟩ := bind_some he
  cases he
  have hb : kitB t T = some (isT t T) := by
    have := List.all_eq_true.mp hk t (tys_mem h2)
    simpa using this
  have hb' : kitB t T' = some (isT t T') := by
    have := List.all_eq_true.mp hk' t (tys_mem h2)
    simpa using this
  refine ⟨by show 2 ≤ sizeLine; decide, fun tp htp => ?_⟩
  have g : Gr X.K H1 m1 (upd H1 tp (.tup [.ty T, .ty T'])) m1 := .fresh htp
  refine ⟨v, tp, _, .type t, [.type T, .type T'], isT t T || isT t T', rfl, upd_same, .cons (.ty T) (.cons (.ty T') .nil), W.ty_ok h2 (rl1.fresh htp) (r1.gr g), ?_, k _ m1 _ (rl1.fresh htp) (g1.trans g) WR.bl⟩
  refine kitAny_cons (kit_ty hb) (fun z => ?_) fun z => by rw [z]; rfl
  rw [z, Bool.false_or]
  exact kitAny_cons (kit_ty hb') (fun z => by rw [z]; exact kitAny_nil) fun z => z

/-! ### methods of built-in types -/
/-- the receiver's type, its method by values -/
def MtMM (X : Cx) (T id : String) (g : W → List W → Sto → Option (W × Sto)) : Prop :=
  ∃ r, MtR X id r ∧ (∀ (H : Hp) (S : Sto) (m : Mp) (x : W) (v : V), Rel X.K H m S → WR X.K H m x v → (∃ ws S' r, g x ws S' = some r) → W.ty S x = some T → tyV X.K T v H) ∧
    ∀ (H : Hp) (S : Sto) (m : Mp) (x : W) (v : V) (ws : List W) (vs : List V) (w : W) (S' : Sto) (Q : VK), Rel X.K H m S → WR X.K H m x v → WRs X.K H m ws vs → g x ws S = some (w, S') →
    (∀ H' m' z, Rel X.K H' m' S' → Gr X.K H m H' m' → WR X.K H' m' w z → Q z H') → r v vs H Q
def mMeth (T : String) (g : W → List W → Sto → Option (W × Sto)) (fo : ME) (ga : MA) : ME := fun env S => (fo env S).bind fun p => if W.ty p.2 p.1 = some T then (ga env p.2).bind fun q => g p.1 q.1 q.2 else none
section
variable {T id : String} {g : W → List W → Sto → Option (W × Sto)} {name : Str} {apos cpos : Pos}
theorem me_meth (pa : PlainAttrs T) (slot : Slot T name id) (hty : typeOf (.builtin id) = pure (.type "method_descriptor")) (hm : MtMM X T id g) (ho : PE X o (tM X.K fo)) (ha : PA X (e :: es) (tMA X.K ga))
    (hbase : attributeBase o name X.env (eval o X.env) = eval o X.env := by rfl)
    (hfew : ((backTo cpos (starEach (e :: es) X.env)).all (fun x => !x.1) && (backToKw cpos (keywordEach [] X.env)).all (fun x => x.1.isSome)
      && decide ((e :: es).length + ([] : List Keyword).length + (if ([] : List Keyword).isEmpty then 0 else 1) < 30)) = true := by rfl)
    (hline : (apos.endLine == cpos.line) = true := by rfl) (hs : starEach (e :: es) X.env = (false, eval e X.env) :: starEach es X.env := by rfl) (hplain : (backTo cpos (starEach es X.env)).any (·.1) = false := by rfl) :
    PE X (.Call (.Attribute o name apos) (e :: es) [] cpos) (tM X.K (mMeth T g fo ga)) := by
  obtain ⟨r, c, ty, q⟩ := hm
  refine PE.imp (pe_bm pa slot hty c ho ha hbase hfew hline hs hplain) fun σ H Q ⟨env, S, m, w, S', er, rl, he, k⟩ => ?_
  unfold mMeth at he
  obtain ⟨⟨x, S1⟩, h1, he⟩ := bind_some he
  split at he
  · rename_i hT
    obtain ⟨⟨ws, S2⟩, h2, he⟩ := bind_some he
    refine ⟨env, S, m, x, S1, er, rl, h1, fun H1 m1 v rl1 g1 r1 => ⟨ty H1 S1 m1 x v rl1 r1 ⟨_, _, _, he⟩ hT, env, S1, m1, ws, S2, er.gr g1, rl1, h2, fun H2 m2 vs rl2 g2 r2 => ?_⟩⟩
    exact q H2 S2 m2 x v ws vs w S' Q rl2 (r1.gr g2) r2 he fun H' m' z rl' g' => k H' m' z rl' ((g1.trans g2).trans g')
  · cases he
theorem me_meth0 (pa : PlainAttrs T) (slot : Slot T name id) (hty : typeOf (.builtin id) = pure (.type "method_descriptor")) (hm : MtMM X T id g) (ho : PE X o (tM X.K fo))
    (hbase : attributeBase o name X.env (eval o X.env) = eval o X.env := by rfl) (hline : (apos.endLine == cpos.line) = true := by rfl) : PE X (.Call (.Attribute o name apos) [] [] cpos) (tM X.K (mMeth T g fo mNil)) := by
  obtain ⟨r, c, ty, q⟩ := hm
  refine PE.imp (pe_bm0 pa slot hty c ho hbase hline) fun σ H Q ⟨env, S, m, w, S', er, rl, he, k⟩ => ?_
  unfold mMeth at he
  obtain ⟨⟨x, S1⟩, h1, he⟩ := bind_some he
  split at he
  · rename_i hT
    obtain ⟨⟨ws, S2⟩, h2, he⟩ := bind_some he
    cases h2
    refine ⟨env, S, m, x, S1, er, rl, h1, fun H1 m1 v rl1 g1 r1 => ⟨ty H1 S1 m1 x v rl1 r1 ⟨_, _, _, he⟩ hT, ?_⟩⟩
    exact q H1 S1 m1 x v [] [] w S' Q rl1 r1 rfl he fun H' m' z rl' g' => k H' m' z rl' (g1.trans g')
  · cases he
end
theorem tyV_list {K : PySem.W.Frag} {H : Hp} {m : Mp} {S : Sto} {x : W} {v : V} (rl : Rel K H m S) (r : WR K H m x v) (e : W.ty S x = some "list") : tyV K "list" v H := by
  cases x with
  | d x =>
    cases x with
    | lst xs =>
      unfold WR DR at r
      obtain ⟨a, vs, rfl, h, _⟩ := r
      exact .inl ⟨rfl, vs, SqL.of h⟩
    | _ => simp [W.ty, tyD] at e
  | scr ns =>
    obtain ⟨a, rfl, h⟩ := r
    exact .inl ⟨rfl, _, Fz.sq h⟩
  | ref n =>
    unfold W.ty at e
    obtain ⟨xs, h1, _⟩ := bind_some e
    obtain ⟨a, vs, rfl, h2, _⟩ := W.list_ok h1 rl r
    exact .inl ⟨rfl, vs, h2⟩
/-- xs.append(e) -/
def gAppend : W → List W → Sto → Option (W × Sto) := fun x ws S => match x with
  | .ref n => (match give ws S with
    | some ([d], S1) => (match S1[n]? with
      | some (.lst xs) => if xs.length < sizeLine then some (.d .non, S1.set n (.lst (xs ++ [d]))) else none
      | _ => none)
    | _ => none)
  | _ => none
theorem mm_append : MtMM X "list" "list.append" gAppend := by
  refine ⟨_, mt_append, fun H S m x v rl r _ e => tyV_list rl r e, fun H S m x v ws vs w S' Q rl r rs e k => ?_⟩
  unfold gAppend at e
  split at e
  · rename_i n
    split at e
    · rename_i d S1 h1
      obtain ⟨m1, rl1, g1, r1⟩ := give_ok h1 rl rs
      split at e
      · rename_i xs h2
        split at e
        · rename_i hz
          cases e
          obtain ⟨a, us, rfl, hn, ha, hd⟩ := ref_ok h2 rl1 (r.gr g1)
          unfold DRs at r1
          obtain ⟨y, vs', rfl, r1, r2⟩ := r1
          unfold DRs at r2
          subst r2
          exact ⟨a, us, y, rfl, rfl, ha, by rw [DRs.length hd]; exact hz, k _ m1 _ (rl1.write hn ha (hd.append (DRs.one r1))) (g1.trans (gr_write rl1 hn ha)) WR.non⟩
        · cases e
      · cases e
    · cases e
  · cases e
/-- xs.pop(i) -/
def gPopAt : W → List W → Sto → Option (W × Sto) := fun x ws S => match x, ws with
  | .ref n, [.d (.int i)] => (match S[n]? with
    | some (.lst xs) => if -(2 ^ 63) ≤ i ∧ i < 2 ^ 63 then (seqIndex? i xs.length).bind fun k => (xs[k]?).bind fun y => some (.d y, S.set n (.lst (xs.eraseIdx k))) else none
    | _ => none)
  | _, _ => none
theorem mm_popAt : MtMM X "list" "list.pop" gPopAt := by
  refine ⟨_, mt_popAt, fun H S m x v rl r _ e => tyV_list rl r e, fun H S m x v ws vs w S' Q rl r rs e k => ?_⟩
  unfold gPopAt at e
  split at e
  · rename_i n i
    split at e
    · rename_i xs h2
      split at e
      · rename_i hz
        obtain ⟨j, h3, e⟩ := bind_some e
        obtain ⟨y, h4, e⟩ := bind_some e
        cases e
        obtain ⟨a, us, rfl, hn, ha, hd⟩ := ref_ok h2 rl r
        obtain ⟨u, rfl, ru⟩ := WRs.one rs
        unfold WR DR at ru
        subst ru
        obtain ⟨z, h5, h6⟩ := hd.get h4
        exact ⟨a, us, i, j, z, rfl, rfl, ha, hz.1, hz.2, by rw [DRs.length hd]; exact h3, h5, k _ m _ (rl.write hn ha (hd.erase j)) (gr_write rl hn ha) (DR.gr (gr_write rl hn ha) h6)⟩
      · cases e
    · cases e
  · cases e
/-- xs.pop() -/
def gPop : W → List W → Sto → Option (W × Sto) := fun x ws S => match x, ws with
  | .ref n, [] => (match S[n]? with
    | some (.lst xs) => (xs[xs.length - 1]?).bind fun y => some (.d y, S.set n (.lst xs.dropLast))
    | _ => none)
  | _, _ => none
theorem DRs.dropLast {K : PySem.W.Frag} {H : Hp} {m : Mp} {xs : List D} {vs : List V} (h : DRs K H m xs vs) : DRs K H m xs.dropLast vs.dropLast := by
  rw [List.dropLast_eq_take, List.dropLast_eq_take, DRs.length h]
  exact h.take _
theorem mm_pop : MtMM X "list" "list.pop" gPop := by
  refine ⟨_, mt_pop, fun H S m x v rl r _ e => tyV_list rl r e, fun H S m x v ws vs w S' Q rl r rs e k => ?_⟩
  unfold gPop at e
  split at e
  · rename_i n
    split at e
    · rename_i xs h2
      obtain ⟨y, h4, e⟩ := bind_some e
      cases e
      obtain ⟨a, us, rfl, hn, ha, hd⟩ := ref_ok h2 rl r
      unfold WRs at rs
      subst rs
      obtain ⟨z, h5, h6⟩ := hd.get h4
      exact ⟨a, us, z, rfl, rfl, ha, by rw [DRs.length hd]; exact h5, k _ m _ (rl.write hn ha hd.dropLast) (gr_write rl hn ha) (DR.gr (gr_write rl hn ha) h6)⟩
    · cases e
  · cases e
/-- xs.extend(ys) -/
def gExtend : W → List W → Sto → Option (W × Sto) := fun x ws S => match x, ws with
  | .ref n, [w] => (match S[n]? with
    | some (.lst xs) => (W.listT S w).bind fun ys => if xs.length + ys.length ≤ sizeLine then some (.d .non, S.set n (.lst (xs ++ ys))) else none
    | _ => none)
  | _, _ => none
theorem mm_extend : MtMM X "list" "list.extend" gExtend := by
  refine ⟨_, mt_extend, fun H S m x v rl r _ e => tyV_list rl r e, fun H S m x v ws vs w S' Q rl r rs e k => ?_⟩
  unfold gExtend at e
  split at e
  · rename_i n w1
    split at e
    · rename_i xs h2
      obtain ⟨ys, h4, e⟩ := bind_some e
      split at e
      · rename_i hz
        cases e
        obtain ⟨a, us, rfl, hn, ha, hd⟩ := ref_ok h2 rl r
        obtain ⟨u, rfl, ru⟩ := WRs.one rs
        obtain ⟨b, zs, rfl, hb, hd2⟩ := W.listT_ok h4 rl ru
        exact ⟨a, b, us, zs, rfl, rfl, ha, hb, by rw [DRs.length hd, DRs.length hd2]; exact hz, k _ m _ (rl.write hn ha (hd.append hd2)) (gr_write rl hn ha) WR.non⟩
      · cases e
    · cases e
  · cases e

/-! ### targets -/
abbrev MG := W → Env → Sto → Option (Env × Sto)
abbrev MGs := List W → Env → Sto → Option (Env × Sto)
def tMG (K : PySem.W.Frag) (f : MG) : TG := fun v σ H Q => ∃ env S m w env' S', ER K H m env σ ∧ Rel K H m S ∧ WR K H m w v ∧ f w env S = some (env', S') ∧ ∀ σ' H' m', ER K H' m' env' σ' → Rel K H' m' S' → Gr K H m H' m' → Q σ' H'
def tMGs (K : PySem.W.Frag) (f : MGs) : TGs := fun v σ H Q => ∃ env S m w env' S', ER K H m env σ ∧ Rel K H m S ∧ WRs K H m w v ∧ f w env S = some (env', S') ∧ ∀ σ' H' m', ER K H' m' env' σ' → Rel K H' m' S' → Gr K H m H' m' → Q σ' H'
theorem PG.imp {t t' : TG} (h : PG X e t) (k : ∀ v σ H Q, t' v σ H Q → t v σ H Q) : PG X e t' := ⟨fun pins s σ H v u Q I r q => h.run pins s σ H v u Q I r (k v σ H Q q)⟩
theorem PGs.imp {t t' : TGs} (h : PGs X es t) (k : ∀ v σ H Q, t' v σ H Q → t v σ H Q) : PGs X es t' := ⟨fun pins s σ H v u Q I r q => h.run pins s σ H v u Q I r (k v σ H Q q)⟩
theorem ER.set {K : PySem.W.Frag} {H : Hp} {m : Mp} {env : Env} {σ : St} {i : Nat} {w : W} {v : V} (er : ER K H m env σ) (r : WR K H m w v) : ER K H m (env.set i (some w)) (σ.set i (some v)) := by
  refine ⟨by simp [er.len], fun j z e => ?_⟩
  by_cases c : i = j
  · subst c
    have hl : i < env.length := by have := (List.getElem?_eq_some_iff.mp e).1; simpa using this
    rw [List.getElem?_set_self hl] at e
    cases e
    exact ⟨v, by rw [List.getElem?_set_self (by rw [← er.len]; exact hl)], r⟩
  · rw [List.getElem?_set_ne c] at e ⊢
    exact er.val j z e
theorem ER.none {K : PySem.W.Frag} {H : Hp} {m : Mp} {env : Env} {σ : St} {i : Nat} (er : ER K H m env σ) : ER K H m (env.set i none) (σ.set i none) := by
  refine ⟨by simp [er.len], fun j z e => ?_⟩
  by_cases c : i = j
  · subst c
    have hl : i < env.length := by have := (List.getElem?_eq_some_iff.mp e).1; simpa using this
    rw [List.getElem?_set_self hl] at e
    cases e
  · rw [List.getElem?_set_ne c] at e ⊢
    exact er.val j z e
def mgName (i : Nat) : MG := fun w env S => some (env.set i (some w), S)
theorem mg_name {i : Nat} (h : PG X e (gName i)) : PG X e (tMG X.K (mgName i)) := PG.imp h fun v σ H Q ⟨env, S, m, w, env', S', er, rl, r, he, k⟩ => by
  cases he
  exact k _ H m (er.set r) rl .refl
def mgNil : MGs := fun ws env S => match ws with
  | [] => some (env, S)
  | _ => none
def mgCons (f : MG) (g : MGs) : MGs := fun ws env S => match ws with
  | w :: r => (f w env S).bind fun p => g r p.1 p.2
  | [] => none
theorem mgs_nil : PGs X [] (tMGs X.K mgNil) := PGs.imp pgs_nil fun v σ H Q ⟨env, S, m, w, env', S', er, rl, r, he, k⟩ => by
  unfold mgNil at he
  split at he
  · cases he
    exact ⟨r, k σ H m er rl .refl⟩
  · cases he
theorem mgs_cons {f : MG} {g : MGs} (h1 : PG X e (tMG X.K f)) (h2 : PGs X es (tMGs X.K g)) (hs : (assignEach (e :: es) X.env).map (·.2) = assign e X.env :: (assignEach es X.env).map (·.2) := by rfl) : PGs X (e :: es) (tMGs X.K (mgCons f g)) :=
  PGs.imp (pgs_cons h1 h2 hs) fun v σ H Q ⟨env, S, m, w, env', S', er, rl, r, he, k⟩ => by
    unfold mgCons at he
    split at he
    · rename_i w1 ws
      obtain ⟨⟨env1, S1⟩, h3, he⟩ := bind_some he
      obtain ⟨v1, vs, rfl, r1, r2⟩ := r
      refine ⟨v1, vs, rfl, env, S, m, w1, env1, S1, er, rl, r1, h3, fun σ1 H1 m1 er1 rl1 g1 => ?_⟩
      exact ⟨env1, S1, m1, ws, env', S', er1, rl1, r2.gr g1, he, fun σ' H' m' er' rl' g' => k σ' H' m' er' rl' (g1.trans g')⟩
    · cases he
theorem DRs.ws {K : PySem.W.Frag} {H : Hp} {m : Mp} : ∀ {xs : List D} {vs : List V}, DRs K H m xs vs → WRs K H m (xs.map W.d) vs
  | [], vs, h => by unfold DRs at h; subst h; rfl
  | x :: xs, vs, h => by
    unfold DRs at h
    obtain ⟨v, vs', rfl, h1, h2⟩ := h
    exact ⟨v, vs', rfl, h1, DRs.ws h2⟩
def mgTup (n : Nat) (g : MGs) : MG := fun w env S => (W.tup w).bind fun xs => if xs.length = n then g (xs.map W.d) env S else none
theorem mg_tup {k n : Nat} {g : MGs} (hc : X.calm = true) (h : PGs X es (tMGs X.K g)) (hn : (assignEach es X.env).length = n := by rfl) (hst : (assignEach es X.env).findIdx? (·.1) = none := by rfl) : PG X (.Tuple es k pos) (tMG X.K (mgTup n g)) :=
  PG.imp (pg_tup hc h hn hst) fun v σ H Q ⟨env, S, m, w, env', S', er, rl, r, he, k⟩ => by
    unfold mgTup at he
    obtain ⟨xs, h1, he⟩ := bind_some he
    split at he
    · rename_i hl
      obtain ⟨a, vs, rfl, h2, h3⟩ := W.tup_ok h1 r
      exact ⟨a, vs, rfl, h2, by rw [DRs.length h3]; exact hl, env, S, m, _, env', S', er, rl, DRs.ws h3, he, k⟩
    · cases he
/-- xs[i] = .. -/
def mgSub (fo fi : ME) : MG := fun w env S => (fo env S).bind fun p => (fi env p.2).bind fun q => match p.1, q.1 with
  | .ref n, .d (.int k) => (match give [w] q.2 with
    | some ([d], S1) => (match S1[n]? with
      | some (.lst xs) => (ixN xs.length k).bind fun j => some (env, S1.set n (.lst (xs.set j d)))
      | _ => none)
    | _ => none)
  | _, _ => none
theorem mg_sub {i : Expr} (ho : PE X o (tM X.K fo)) (hi : PE X i (tM X.K fi))
    (ha : ∀ v, assign (.Subscript o i pos) X.env v = (do
      let ov ← holding [v] (eval o X.env)
      let iv ← holding [v, ov] (eval i X.env)
      standAt pos
      holding [v, ov, iv] (setItem ov iv v)
      release [v, ov, iv] []) := by intro _; rfl) : PG X (.Subscript o i pos) (tMG X.K (mgSub fo fi)) :=
  PG.imp (pg_sub ho hi set_list ha) fun v σ H Q ⟨env, S, m, w, env', S', er, rl, r, he, k⟩ => by
    unfold mgSub at he
    obtain ⟨⟨w1, S1⟩, h1, he⟩ := bind_some he
    obtain ⟨⟨w2, S2⟩, h2, he⟩ := bind_some he
    refine ⟨env, S, m, w1, S1, er, rl, h1, fun H1 m1 x rl1 g1 r1 => ⟨env, S1, m1, w2, S2, er.gr g1, rl1, h2, fun H2 m2 y rl2 g2 r2 => ?_⟩⟩
    have g12 := g1.trans g2
    split at he
    · rename_i n kk e1 e2
      have e1 : w1 = .ref n := e1
      have e2 : w2 = .d (.int kk) := e2
      subst e1 e2
      split at he
      · rename_i d S3 h3
        obtain ⟨m3, rl3, g3, r3⟩ := give_ok h3 rl2 (show WRs X.K H2 m2 [w] [v] from ⟨v, [], rfl, r.gr g12, rfl⟩)
        split at he
        · rename_i xs h4
          obtain ⟨j, h5, he⟩ := bind_some he
          cases he
          obtain ⟨a, us, rfl, hn, ha, hd⟩ := ref_ok h4 rl3 ((r1.gr g2).gr g3)
          unfold DRs at r3
          obtain ⟨z, zs, e3, r3, r4⟩ := r3
          cases e3
          unfold WR DR at r2
          subst r2
          have g4 := gr_write (xs' := us.set j v) rl3 hn ha
          exact ⟨a, us, kk, j, rfl, rfl, ha, by rw [DRs.length hd]; exact h5, k σ _ m3 (((er.gr g12).gr g3).gr g4) (rl3.write hn ha (hd.set j r3)) ((g12.trans g3).trans g4)⟩
        · cases he
      · cases he
    · cases he

/-! ### statements -/
variable {st : Stmt} {rest : List Stmt} {s1 s2 : MS} {t : MB}
theorem FlP.gr {K : PySem.W.Frag} {H H1 : Hp} {m m1 : Mp} {D : Ends} {r : Fl} (g : Gr K H m H1 m1) (h : FlP K H m D r) : FlP K H1 m1 D r := by
  cases r with
  | nx e S => exact fun σ' H' m' er rl g' => h σ' H' m' er rl (g.trans g')
  | rt w S => exact fun H' m' v rl g' => h H' m' v rl (g.trans g')
  | bk e S => exact fun σ' H' m' er rl g' => h σ' H' m' er rl (g.trans g')
  | ct e S => exact fun σ' H' m' er rl g' => h σ' H' m' er rl (g.trans g')
def sNil : MS := fun env S => some (.nx env S)
def sSeq (f g : MS) : MS := fun env S => (f env S).bind fun r => match r with
  | .nx e S1 => g e S1
  | r => some r
theorem mss_nil : PSs X [] (tMS X.K sNil) := PSs.imp pss_nil fun D σ H ⟨env, S, m, r, er, rl, he, k⟩ => by
  cases he
  exact k σ H m er rl .refl
theorem mss_cons (h1 : PS X st (tMS X.K s1)) (h2 : PSs X rest (tMS X.K s2)) : PSs X (st :: rest) (tMS X.K (sSeq s1 s2)) := PSs.imp (pss_cons h1 h2) fun D σ H ⟨env, S, m, r, er, rl, he, k⟩ => by
  unfold sSeq at he
  obtain ⟨r1, h3, he⟩ := bind_some he
  refine ⟨env, S, m, r1, er, rl, h3, ?_⟩
  cases r1 with
  | nx e S1 => exact fun σ1 H1 m1 er1 rl1 g1 => ⟨e, S1, m1, r, er1, rl1, he, k.gr g1⟩
  | rt w S1 => cases he; exact k
  | bk e S1 => cases he; exact k
  | ct e S1 => cases he; exact k
theorem mss_one (h1 : PS X st (tMS X.K s1)) : PSs X [st] (tMS X.K s1) := pss_one h1
def sBk : MS := fun env S => some (.bk env S)
def sCt : MS := fun env S => some (.ct env S)
def sNo : MS := fun _ _ => none
theorem ms_pass : PS X (.Pass pos) (tMS X.K sNil) := PS.imp ps_pass fun D σ H ⟨env, S, m, r, er, rl, he, k⟩ => by
  cases he
  exact k σ H m er rl .refl
theorem ms_break : PS X (.Break pos) (tMS X.K sBk) := PS.imp ps_break fun D σ H ⟨env, S, m, r, er, rl, he, k⟩ => by
  cases he
  exact k σ H m er rl .refl
theorem ms_continue : PS X (.Continue pos) (tMS X.K sCt) := PS.imp ps_continue fun D σ H ⟨env, S, m, r, er, rl, he, k⟩ => by
  cases he
  exact k σ H m er rl .refl
/-- code that is never reached -/
theorem ms_never : PS X st (tMS X.K sNo) := PS.imp ps_never fun D σ H ⟨env, S, m, r, er, rl, he, k⟩ => by cases he
def sExpr (f : ME) : MS := fun env S => (f env S).bind fun p => some (.nx env p.2)
theorem ms_expr (he : PE X e (tM X.K f)) (hs : swapsWith e none pos.line X.env = pure false := by rfl) : PS X (.Expr e pos) (tMS X.K (sExpr f)) := PS.imp (ps_expr he hs) fun D σ H ⟨env, S, m, r, er, rl, he, k⟩ => by
  unfold sExpr at he
  obtain ⟨⟨w, S1⟩, h1, he⟩ := bind_some he
  cases he
  exact ⟨env, S, m, w, S1, er, rl, h1, fun H1 m1 v rl1 g1 r1 => k σ H1 m1 (er.gr g1) rl1 g1⟩
def sRet (f : ME) : MS := fun env S => (f env S).bind fun p => some (.rt p.1 p.2)
theorem ms_ret (he : PE X e (tM X.K f)) : PS X (.Return (some e) pos) (tMS X.K (sRet f)) := PS.imp (ps_ret he) fun D σ H ⟨env, S, m, r, er, rl, he, k⟩ => by
  unfold sRet at he
  obtain ⟨⟨w, S1⟩, h1, he⟩ := bind_some he
  cases he
  exact ⟨env, S, m, w, S1, er, rl, h1, fun H1 m1 v rl1 g1 r1 => k H1 m1 v rl1 g1 r1⟩
def sIf (t : MB) (f g : MS) : MS := fun env S => (t env S).bind fun p => if p.1 then f env p.2 else g env p.2
theorem ms_if {c : Expr} {u v : List Stmt} (hc : PT X c (tMB X.K t)) (ha : PSs X u (tMS X.K s1)) (hb : PSs X v (tMS X.K s2)) : PS X (.If c u v pos) (tMS X.K (sIf t s1 s2)) := PS.imp (ps_if hc ha hb) fun D σ H ⟨env, S, m, r, er, rl, he, k⟩ => by
  unfold sIf at he
  obtain ⟨⟨b, S1⟩, h1, he⟩ := bind_some he
  refine ⟨env, S, m, b, S1, er, rl, h1, fun H1 m1 rl1 g1 => ?_⟩
  cases b with
  | true =>
    rw [if_pos rfl]
    exact ⟨env, S1, m1, r, er.gr g1, rl1, by simpa using he, k.gr g1⟩
  | false =>
    rw [if_neg (by decide)]
    exact ⟨env, S1, m1, r, er.gr g1, rl1, by simpa using he, k.gr g1⟩
def sAsg (f : ME) (g : MG) : MS := fun env S => (f env S).bind fun p => (g p.1 env p.2).bind fun q => some (.nx q.1 q.2)
theorem tAsg_of {g : MG} {te : TE} {tg : TG} (hf : ∀ σ H Q, tM X.K f σ H Q → te σ H Q) (hg : ∀ v σ H Q, tMG X.K g v σ H Q → tg v σ H Q) (D : Ends) (σ : St) (H : Hp) (h : tMS X.K (sAsg f g) D σ H) : tAsg te tg D σ H := by
  obtain ⟨env, S, m, r, er, rl, he, k⟩ := h
  unfold sAsg at he
  obtain ⟨⟨w, S1⟩, h1, he⟩ := bind_some he
  obtain ⟨⟨env2, S2⟩, h2, he⟩ := bind_some he
  cases he
  exact hf _ _ _ ⟨env, S, m, w, S1, er, rl, h1, fun H1 m1 v rl1 g1 r1 => hg _ _ _ _ ⟨env, S1, m1, w, env2, S2, er.gr g1, rl1, r1, h2, fun σ' H' m' er' rl' g' => k σ' H' m' er' rl' (g1.trans g')⟩⟩
theorem ms_asg {tg : Expr} {g : MG} (he : PE X e (tM X.K f)) (hg : PG X tg (tMG X.K g)) (hs : swapsWithSole [tg] e pos.line X.env = pure false := by rfl) (hw : swappedStores [tg] e X.env = pure none := by rfl)
    (h1 : (assignEach [tg] X.env).map (·.2) = [assign tg X.env] := by rfl) : PS X (.Assign [tg] e pos) (tMS X.K (sAsg f g)) := PS.imp (ps_asg he hg hs hw h1) (tAsg_of (fun _ _ _ h => h) fun _ _ _ _ h => h)
/-- a, b = x, y -/
def sPar (i j : Nat) (ga : MA) : MS := fun env S => (ga env S).bind fun p => match p.1 with
  | [v, w] => some (.nx ((env.set i (some v)).set j (some w)) p.2)
  | _ => none
theorem ms_par {i j : Nat} (h : PS X st (tPar i j (tMA X.K ga))) : PS X st (tMS X.K (sPar i j ga)) := PS.imp h fun D σ H ⟨env, S, m, r, er, rl, he, k⟩ => by
  unfold sPar at he
  obtain ⟨⟨ws, S1⟩, h1, he⟩ := bind_some he
  split at he
  · rename_i v w e0
    have e0 : ws = [v, w] := e0
    subst e0
    cases he
    refine ⟨env, S, m, _, S1, er, rl, h1, fun H1 m1 vs rl1 g1 r1 => ?_⟩
    obtain ⟨x, y, rfl, rx, ry⟩ := WRs.two r1
    exact ⟨x, y, rfl, k _ H1 m1 (((er.gr g1).set rx).set ry) rl1 g1⟩
  · cases he
def sPar3 (i j l : Nat) (ga : MA) : MS := fun env S => (ga env S).bind fun p => match p.1 with
  | [v, w, z] => some (.nx (((env.set i (some v)).set j (some w)).set l (some z)) p.2)
  | _ => none
theorem ms_par3 {i j l : Nat} (h : PS X st (tPar3 i j l (tMA X.K ga))) : PS X st (tMS X.K (sPar3 i j l ga)) := PS.imp h fun D σ H ⟨env, S, m, r, er, rl, he, k⟩ => by
  unfold sPar3 at he
  obtain ⟨⟨ws, S1⟩, h1, he⟩ := bind_some he
  split at he
  · rename_i v w z e0
    have e0 : ws = [v, w, z] := e0
    subst e0
    cases he
    refine ⟨env, S, m, _, S1, er, rl, h1, fun H1 m1 vs rl1 g1 r1 => ?_⟩
    obtain ⟨x, vs', rfl, rx, r2⟩ := r1
    obtain ⟨y, u, e3, ry, rz⟩ := WRs.two r2
    subst e3
    exact ⟨x, y, u, rfl, k _ H1 m1 ((((er.gr g1).set rx).set ry).set rz) rl1 g1⟩
  · cases he
/-- x += e, whole numbers -/
def sAug (i : Nat) (g : Int → Int → Int) (f : ME) : MS := fun env S => match env[i]? with
  | some (some (.d (.int x))) => (f env S).bind fun p => match p.1 with
    | .d (.int y) => some (.nx (env.set i (some (.d (.int (g x y))))) p.2)
    | _ => none
  | _ => none
theorem ms_aug {i : Nat} {g : Int → Int → Int} (h : PS X st (tAug i (tM X.K f) (ipI g))) : PS X st (tMS X.K (sAug i g f)) := PS.imp h fun D σ H ⟨env, S, m, r, er, rl, he, k⟩ => by
  unfold sAug at he
  split at he
  · rename_i x e0
    obtain ⟨⟨w, S1⟩, h1, he⟩ := bind_some he
    split at he
    · rename_i y e1
      have e1 : w = .d (.int y) := e1
      subst e1
      cases he
      obtain ⟨v, e2, r2⟩ := er.val i _ e0
      unfold WR DR at r2
      subst r2
      refine ⟨_, e2, env, S, m, _, S1, er, rl, h1, fun H1 m1 u rl1 g1 r1 => ?_⟩
      unfold WR DR at r1
      exact ⟨x, y, rfl, r1, k _ H1 m1 ((er.gr g1).set WR.int) rl1 g1⟩
    · cases he
  · cases he

/-! ### while -/
def whileM (t : MB) (b : MS) : Nat → MS
  | 0 => fun _ _ => none
  | n + 1 => fun env S => (t env S).bind fun p => if p.1 then (b env p.2).bind fun r => (match r with
    | .nx e S2 => whileM t b n e S2
    | .ct e S2 => whileM t b n e S2
    | .bk e S2 => some (.nx e S2)
    | .rt w S2 => some (.rt w S2)) else some (.nx env p.2)
def sWhile (fuel : Env → Sto → Nat) (t : MB) (b : MS) : MS := fun env S => whileM t b (fuel env S) env S
theorem ms_while (fuel : Env → Sto → Nat) {c : Expr} {body : List Stmt} (hp : PassesOwn (model X.prog X.w) X.A X.env X.xe) (hc : PT X c (tMB X.K t)) (hb : PSs X body (tMS X.K s1)) : PS X (.While c body [] pos) (tMS X.K (sWhile fuel t s1)) :=
  PS.imp (ps_while hp hc hb) fun D σ H ⟨env, S, m, r, er, rl, he, k⟩ => by
    refine ⟨fun n σ H => tMS X.K (whileM t s1 n) D σ H, ⟨fuel env S, env, S, m, r, er, rl, he, k⟩, fun n σ H h => ?_⟩
    obtain ⟨env, S, m, r, er, rl, he, k⟩ := h
    cases n with
    | zero => cases he
    | succ n =>
      unfold whileM at he
      obtain ⟨⟨b, S1⟩, h1, he⟩ := bind_some he
      refine ⟨env, S, m, b, S1, er, rl, h1, fun H1 m1 rl1 g1 => ?_⟩
      cases b with
      | false =>
        rw [if_neg (by decide)]
        simp at he
        subst he
        exact k σ H1 m1 (er.gr g1) rl1 g1
      | true =>
        rw [if_pos rfl]
        simp only [if_true] at he
        obtain ⟨r1, h2, he⟩ := bind_some he
        refine ⟨fun σ' H' => tMS X.K (whileM t s1 n) D σ' H', fun σ' H' h' => ⟨n, Nat.lt_succ_self n, h'⟩, env, S1, m1, r1, er.gr g1, rl1, h2, ?_⟩
        cases r1 with
        | nx e S2 => exact fun σ2 H2 m2 er2 rl2 g2 => ⟨e, S2, m2, r, er2, rl2, he, k.gr (g1.trans g2)⟩
        | ct e S2 => exact fun σ2 H2 m2 er2 rl2 g2 => ⟨e, S2, m2, r, er2, rl2, he, k.gr (g1.trans g2)⟩
        | bk e S2 => cases he; exact FlP.gr g1 k
        | rt w S2 => cases he; exact FlP.gr g1 k
end
end MW
end
section
set_option maxRecDepth 100000
/-! MW, part f: for, comprehensions. -/
namespace MW
open PySem PySem.Spec L2

mutual
def D.beq : D → D → Bool
  | .non, .non => true
  | .bl a, .bl b => a == b
  | .int a, .int b => a == b
  | .str a, .str b => a == b
  | .tup a, .tup b => D.beqs a b
  | .lst a, .lst b => D.beqs a b
  | _, _ => false
def D.beqs : List D → List D → Bool
  | [], [] => true
  | x :: xs, y :: ys => D.beq x y && D.beqs xs ys
  | _, _ => false
end
mutual
theorem D.beq_refl : ∀ x : D, D.beq x x = true
  | .non => rfl
  | .bl _ => by simp [D.beq]
  | .int _ => by simp [D.beq]
  | .str _ => by simp [D.beq]
  | .tup xs => by simp [D.beq, D.beqs_refl xs]
  | .lst xs => by simp [D.beq, D.beqs_refl xs]
theorem D.beqs_refl : ∀ xs : List D, D.beqs xs xs = true
  | [] => rfl
  | x :: xs => by simp [D.beqs, D.beq_refl x, D.beqs_refl xs]
end
mutual
theorem D.beq_eq : ∀ {x y : D}, D.beq x y = true → x = y
  | .non, y, h => by cases y <;> simp_all [D.beq]
  | .bl _, y, h => by cases y <;> simp_all [D.beq]
  | .int _, y, h => by cases y <;> simp_all [D.beq]
  | .str _, y, h => by cases y <;> simp_all [D.beq]
  | .tup xs, y, h => by
    cases y with
    | tup ys => simp only [D.beq] at h; rw [D.beqs_eq h]
    | _ => simp [D.beq] at h
  | .lst xs, y, h => by
    cases y with
    | lst ys => simp only [D.beq] at h; rw [D.beqs_eq h]
    | _ => simp [D.beq] at h
theorem D.beqs_eq : ∀ {xs ys : List D}, D.beqs xs ys = true → xs = ys
  | [], ys, h => by cases ys <;> simp_all [D.beqs]
  | x :: xs, ys, h => by
    cases ys with
    | nil => simp [D.beqs] at h
    | cons y ys =>
      simp only [D.beqs, Bool.and_eq_true] at h
      rw [D.beq_eq h.1, D.beqs_eq h.2]
end

/-! ### what is walked -/
/-- the items; a list of the own store that must stand as it is meanwhile -/
structure Wk where
  its : List D
  chk : Option (Nat × List D)
def Wk.ok (k : Wk) (S : Sto) : Bool := match k.chk with
  | none => true
  | some (n, xs) => match S[n]? with
    | some (.lst ys) => D.beqs ys xs
    | _ => false
abbrev MI := Env → Sto → Option (Wk × Sto)
structure Walks (K : PySem.W.Frag) (J : It) (k : Wk) (H0 : Hp) (m0 : Mp) : Prop where
  go : ∀ i H m S, Rel K H m S → Gr K H0 m0 H m → k.ok S = true → i < k.its.length → J.go i H
  yld : ∀ i H m S v H' x, Rel K H m S → Gr K H0 m0 H m → k.ok S = true → k.its[i]? = some x → J.yld i H v H' → Rel K H' m S ∧ Gr K H m H' m ∧ DR K H' m x v
  stop : ∀ H m S, Rel K H m S → Gr K H0 m0 H m → k.ok S = true → J.stop k.its.length H
def tMI (K : PySem.W.Frag) (f : MI) : TI := fun σ H R => ∃ env S m w S', ER K H m env σ ∧ Rel K H m S ∧ f env S = some (w, S') ∧ ∀ H' m' J, Rel K H' m' S' → Gr K H m H' m' → Walks K J w H' m' → R J H'
section
variable {X : Cx} {tg e a b : Expr} {es : List Expr} {fa fb f : ME} {ga : MA} {pos : Pos}
theorem PI.imp {t t' : TI} (h : PI X tg e t) (k : ∀ σ H R, t' σ H R → t σ H R) : PI X tg e t' := ⟨fun pins s σ H R I q => h.run pins s σ H R I (k σ H R q)⟩
def W.lock (w : W) (xs : List D) : Option (Nat × List D) := match w with
  | .ref n => some (n, xs)
  | _ => none
/-- a list that is read again and again -/
theorem list_stays {K : PySem.W.Frag} {H0 : Hp} {m0 : Mp} {S0 : Sto} {w : W} {v : V} {xs : List D} {chk : Option (Nat × List D)} (e : W.list S0 w = some xs) (hk : chk = w.lock xs) (rl : Rel K H0 m0 S0) (r : WR K H0 m0 w v) :
    ∃ a, v = .ref a ∧ ∀ H m S, Rel K H m S → Gr K H0 m0 H m → Wk.ok ⟨xs, chk⟩ S = true → ∃ vs, SqL K H a vs ∧ DRs K H m xs vs := by
  obtain ⟨a, vs, rfl, h1, h2⟩ := W.list_ok e rl r
  refine ⟨a, rfl, fun H m S rl' g hc => ?_⟩
  have e' : W.list S w = some xs := by
    cases w with
    | d x => cases x <;> exact e
    | scr ns => exact e
    | ref n =>
      subst hk
      have hc : (match S[n]? with | some (.lst ys) => D.beqs ys xs | _ => false) = true := hc
      unfold W.list
      cases q : S[n]? with
      | none => rw [q] at hc; cases hc
      | some o =>
        cases o with
        | dead => rw [q] at hc; cases hc
        | lst ys =>
          rw [q] at hc
          show (match S[n]? with | some (.lst xs) => some xs | _ => none) = some xs
          rw [q, ← D.beqs_eq hc]
  obtain ⟨b, us, e2, h3, h4⟩ := W.list_ok e' rl' (r.gr g)
  cases e2
  exact ⟨us, h3, h4⟩
def wkL (S : Sto) (w : W) : Option Wk := (W.list S w).bind fun xs => some ⟨xs, w.lock xs⟩
def miList (f : ME) : MI := fun env S => (f env S).bind fun p => (wkL p.2 p.1).bind fun k => some (k, p.2)
theorem walks_list {K : PySem.W.Frag} {H0 : Hp} {m0 : Mp} {S0 : Sto} {w : W} {v : V} {k : Wk} (e : wkL S0 w = some k) (rl : Rel K H0 m0 S0) (r : WR K H0 m0 w v) : ∃ a, v = .ref a ∧ (∃ xs, SqL K H0 a xs) ∧ Walks K (Itl K a) k H0 m0 := by
  unfold wkL at e
  obtain ⟨xs, h1, e⟩ := bind_some e
  cases e
  obtain ⟨a, rfl, st⟩ := list_stays h1 rfl rl r
  obtain ⟨a', vs, e2, h2, h3⟩ := W.list_ok h1 rl r
  cases e2
  refine ⟨a, rfl, ⟨vs, h2⟩, ⟨fun i H m S rl g hc hi => ?_, fun i H m S v H' x rl g hc hx y => ?_, fun H m S rl g hc => ?_⟩⟩
  · obtain ⟨vs, q1, q2⟩ := st H m S rl g hc
    have hi' : i < vs.length := by rw [DRs.length q2]; exact hi
    exact ⟨vs, vs[i], q1, by simp [hi']⟩
  · obtain ⟨vs, q1, q2⟩ := st H m S rl g hc
    obtain ⟨rfl, y⟩ := y
    obtain ⟨u, q3, q4⟩ := q2.get hx
    have := y vs q1
    rw [q3] at this
    cases this
    exact ⟨rl, .refl, q4⟩
  · obtain ⟨vs, q1, q2⟩ := st H m S rl g hc
    exact ⟨vs, q1, by rw [DRs.length q2]; exact Nat.le_refl _⟩
theorem mi_list (h : PE X e (tM X.K f)) : PI X tg e (tMI X.K (miList f)) := PI.imp (pi_list h) fun σ H R ⟨env, S, m, w, S', er, rl, he, k⟩ => by
  unfold miList at he
  obtain ⟨⟨w1, S1⟩, h1, he⟩ := bind_some he
  obtain ⟨kk, h2, he⟩ := bind_some he
  cases he
  refine ⟨env, S, m, w1, _, er, rl, h1, fun H1 m1 v rl1 g1 r1 => ?_⟩
  obtain ⟨a, rfl, h3, h4⟩ := walks_list h2 rl1 r1
  exact ⟨a, rfl, h3, k H1 m1 _ rl1 g1 h4⟩
def miTup (f : ME) : MI := fun env S => (f env S).bind fun p => (W.tup p.1).bind fun xs => some (⟨xs, none⟩, p.2)
theorem mi_tup (h : PE X e (tM X.K f)) : PI X tg e (tMI X.K (miTup f)) := PI.imp (pi_tup h) fun σ H R ⟨env, S, m, w, S', er, rl, he, k⟩ => by
  unfold miTup at he
  obtain ⟨⟨w1, S1⟩, h1, he⟩ := bind_some he
  obtain ⟨xs, h2, he⟩ := bind_some he
  cases he
  refine ⟨env, S, m, w1, _, er, rl, h1, fun H1 m1 v rl1 g1 r1 => ?_⟩
  obtain ⟨a, vs, rfl, h3, h4⟩ := W.tup_ok h2 r1
  refine ⟨a, rfl, ⟨vs, h3⟩, k H1 m1 _ rl1 g1 ⟨fun i H m S rl g hc hi => ?_, fun i H m S v H' x rl g hc hx y => ?_, fun H m S rl g hc => ?_⟩⟩
  · have hi' : i < vs.length := by rw [DRs.length h4]; exact hi
    exact ⟨vs, vs[i], g.tup a vs h3, by simp [hi']⟩
  · obtain ⟨rfl, y⟩ := y
    obtain ⟨u, q3, q4⟩ := (DRs.gr g h4).get hx
    have := y vs (g.tup a vs h3)
    rw [q3] at this
    cases this
    exact ⟨rl, .refl, q4⟩
  · exact ⟨vs, g.tup a vs h3, by rw [DRs.length h4]; exact Nat.le_refl _⟩
/-- whole numbers from lo on -/
def upFrom (lo : Int) (n : Nat) : List D := (List.range n).map fun (i : Nat) => D.int (lo + (i : Int))
theorem walks_range {K : PySem.W.Frag} {H0 : Hp} {m0 : Mp} (lo : Int) (n : Nat) : Walks K (Itr lo n) ⟨upFrom lo n, none⟩ H0 m0 := by
  refine ⟨fun i H m S rl g hc hi => ?_, fun i H m S v H' x rl g hc hx y => ?_, fun H m S rl g hc => ?_⟩
  · show i < n
    simpa [upFrom] using hi
  · obtain ⟨rfl, rfl⟩ := y
    have : x = .int (lo + (i : Int)) := by
      simp only [upFrom] at hx
      rw [List.getElem?_map] at hx
      cases q : (List.range n)[i]? with
      | none => rw [q] at hx; cases hx
      | some j =>
        rw [q] at hx
        have := List.getElem?_eq_some_iff.mp q
        obtain ⟨h1, h2⟩ := this
        simp at h2
        subst h2
        exact (Option.some.inj hx).symm
    subst this
    exact ⟨rl, .refl, DR.int _ _ _ _⟩
  · show n ≤ (upFrom lo n).length
    simp [upFrom]
def miRange1 (ga : MA) : MI := fun env S => (ga env S).bind fun p => match p.1 with
  | [.d (.int j)] => if -(2 ^ 62) ≤ j ∧ j < 2 ^ 62 then some (⟨upFrom 0 j.toNat, none⟩, p.2) else none
  | _ => none
theorem mi_range1 {p : Pos} (hg : Gl X "range") (hm : X.mg "range" = none) (ha : PA X [a] (tMA X.K ga)) (hs : starEach [a] X.env = [(false, eval a X.env)] := by rfl) : PI X tg (.Call (.Name "range" p) [a] [] pos) (tMI X.K (miRange1 ga)) :=
  PI.imp (pi_range1 hg hm ha hs) fun σ H R ⟨env, S, m, w, S', er, rl, he, k⟩ => by
    unfold miRange1 at he
    obtain ⟨⟨ws, S1⟩, h1, he⟩ := bind_some he
    split at he
    · rename_i j e0
      have e0 : ws = [.d (.int j)] := e0
      subst e0
      split at he
      · rename_i hz
        cases he
        refine ⟨env, S, m, _, _, er, rl, h1, fun H1 m1 vs rl1 g1 r1 => ?_⟩
        obtain ⟨v, rfl, r2⟩ := WRs.one r1
        unfold WR DR at r2
        subst r2
        exact ⟨j, rfl, hz.1, hz.2, k H1 m1 _ rl1 g1 (walks_range 0 _)⟩
      · cases he
    · cases he
def miRange2 (ga : MA) : MI := fun env S => (ga env S).bind fun p => match p.1 with
  | [.d (.int i), .d (.int j)] => if -(2 ^ 62) ≤ i ∧ i < 2 ^ 62 ∧ -(2 ^ 62) ≤ j ∧ j < 2 ^ 62 then some (⟨upFrom i (j - i).toNat, none⟩, p.2) else none
  | _ => none
theorem mi_range2 {p : Pos} (hg : Gl X "range") (hm : X.mg "range" = none) (ha : PA X [a, b] (tMA X.K ga)) (hs : starEach [a, b] X.env = [(false, eval a X.env), (false, eval b X.env)] := by rfl) (hs2 : starEach [b] X.env = [(false, eval b X.env)] := by rfl) :
    PI X tg (.Call (.Name "range" p) [a, b] [] pos) (tMI X.K (miRange2 ga)) :=
  PI.imp (pi_range2 hg hm ha hs hs2) fun σ H R ⟨env, S, m, w, S', er, rl, he, k⟩ => by
    unfold miRange2 at he
    obtain ⟨⟨ws, S1⟩, h1, he⟩ := bind_some he
    split at he
    · rename_i i j e0
      have e0 : ws = [.d (.int i), .d (.int j)] := e0
      subst e0
      split at he
      · rename_i hz
        cases he
        refine ⟨env, S, m, _, _, er, rl, h1, fun H1 m1 vs rl1 g1 r1 => ?_⟩
        obtain ⟨v, u, rfl, r2, r3⟩ := WRs.two r1
        unfold WR DR at r2 r3
        subst r2 r3
        exact ⟨i, j, rfl, hz, k H1 m1 _ rl1 g1 (walks_range i _)⟩
      · cases he
    · cases he
/-- enumerate(xs) -/
def pairUp (lo : Nat) : List D → List D
  | [] => []
  | x :: xs => .tup [.int lo, x] :: pairUp (lo + 1) xs
theorem pairUp_length (lo : Nat) (xs : List D) : (pairUp lo xs).length = xs.length := by
  induction xs generalizing lo with
  | nil => rfl
  | cons x xs ih => simp [pairUp, ih]
theorem pairUp_get (xs : List D) : ∀ (lo i : Nat), (pairUp lo xs)[i]? = (xs[i]?).map fun x => D.tup [.int ((lo + i : Nat) : Int), x] := by
  induction xs with
  | nil => intro lo i; simp [pairUp]
  | cons x xs ih =>
    intro lo i
    cases i with
    | zero => simp [pairUp]
    | succ i =>
      simp only [pairUp, List.getElem?_cons_succ]
      rw [ih]
      have : lo + 1 + i = lo + (i + 1) := by omega
      rw [this]
def miEnum (ga : MA) : MI := fun env S => (ga env S).bind fun p => match p.1 with
  | [w] => (wkL p.2 w).bind fun k => some (⟨pairUp 0 k.its, k.chk⟩, p.2)
  | _ => none
theorem fresh_pair {K : PySem.W.Frag} {H : Hp} {m : Mp} {S : Sto} {T : Addr} {x y : D} {u v : V} (rl : Rel K H m S) (hT : H T = none) (r1 : DR K H m x u) (r2 : DR K H m y v) :
    Rel K (upd H T (.tup [u, v])) m S ∧ Gr K H m (upd H T (.tup [u, v])) m ∧ DR K (upd H T (.tup [u, v])) m (.tup [x, y]) (.ref T) := by
  have g : Gr K H m (upd H T (.tup [u, v])) m := .fresh hT
  refine ⟨rl.fresh hT, g, ?_⟩
  unfold DR
  exact ⟨T, _, rfl, SqT.of upd_same, DRs.gr g (DRs.cons r1 (DRs.one r2))⟩
theorem mi_enum {p tpos : Pos} {elts : List Expr} {kk : Nat} (hg : Gl X "enumerate") (hm : X.mg "enumerate" = none) (ha : PA X [e] (tMA X.K ga)) (hs : starEach [e] X.env = [(false, eval e X.env)] := by rfl) :
    PI X (.Tuple elts kk tpos) (.Call (.Name "enumerate" p) [e] [] pos) (tMI X.K (miEnum ga)) :=
  PI.imp (pi_enum hg hm ha hs) fun σ H R ⟨env, S, m, w, S', er, rl, he, k⟩ => by
    unfold miEnum at he
    obtain ⟨⟨ws, S1⟩, h1, he⟩ := bind_some he
    split at he
    · rename_i w1 e0
      have e0 : ws = [w1] := e0
      subst e0
      obtain ⟨kk, h2, he⟩ := bind_some he
      cases he
      refine ⟨env, S, m, _, _, er, rl, h1, fun H1 m1 vs rl1 g1 r1 => ?_⟩
      obtain ⟨v, rfl, r2⟩ := WRs.one r1
      unfold wkL at h2
      obtain ⟨xs, h3, h2⟩ := bind_some h2
      cases h2
      obtain ⟨a, rfl, st⟩ := list_stays h3 rfl rl1 r2
      obtain ⟨a', us, e2, h4, h5⟩ := W.list_ok h3 rl1 r2
      cases e2
      refine ⟨a, us, rfl, h4, k H1 m1 _ rl1 g1 ⟨fun i H m S rl g hc hi => ?_, fun i H m S v H' x rl g hc hx y => ?_, fun H m S rl g hc => ?_⟩⟩
      · obtain ⟨vs, q1, q2⟩ := st H m S rl g hc
        have hi' : i < vs.length := by
          rw [DRs.length q2]
          have : i < (pairUp 0 xs).length := hi
          rw [pairUp_length] at this
          exact this
        exact ⟨vs, vs[i], q1, by simp [hi']⟩
      · obtain ⟨vs, q1, q2⟩ := st H m S rl g hc
        obtain ⟨T, z, rfl, hT, rfl, y⟩ := y
        have hx : (pairUp 0 xs)[i]? = some x := hx
        rw [pairUp_get] at hx
        cases q : xs[i]? with
        | none => rw [q] at hx; cases hx
        | some x0 =>
          rw [q] at hx
          have hx := Option.some.inj hx
          subst hx
          obtain ⟨u, q3, q4⟩ := q2.get q
          have := y vs q1
          rw [q3] at this
          cases this
          rw [Nat.zero_add]
          exact fresh_pair rl hT (DR.int _ _ _ _) q4
      · obtain ⟨vs, q1, q2⟩ := st H m S rl g hc
        refine ⟨vs, q1, ?_⟩
        show vs.length ≤ (pairUp 0 xs).length
        rw [pairUp_length, DRs.length q2]
        exact Nat.le_refl _
    · cases he
/-- zip(xs, ys), two lists -/
def zipD : List D → List D → List D
  | x :: xs, y :: ys => .tup [x, y] :: zipD xs ys
  | _, _ => []
theorem zipD_length : ∀ (xs ys : List D), (zipD xs ys).length = min xs.length ys.length
  | [], _ => by simp [zipD]
  | _ :: _, [] => by simp [zipD]
  | x :: xs, y :: ys => by
    have := zipD_length xs ys
    simp only [zipD, List.length_cons]
    omega
theorem zipD_get : ∀ (xs ys : List D) (i : Nat) (z : D), (zipD xs ys)[i]? = some z → ∃ x y, xs[i]? = some x ∧ ys[i]? = some y ∧ z = .tup [x, y]
  | [], _, _, _, h => by simp [zipD] at h
  | _ :: _, [], _, _, h => by simp [zipD] at h
  | x :: xs, y :: ys, 0, z, h => by simp [zipD] at h; exact ⟨x, y, rfl, rfl, h.symm⟩
  | x :: xs, y :: ys, i + 1, z, h => by
    obtain ⟨a, b, h1, h2, h3⟩ := zipD_get xs ys i z (by simpa [zipD] using h)
    exact ⟨a, b, by simpa using h1, by simpa using h2, h3⟩
/-- two lists that nobody changes, or two tuples -/
def pureL : W → Bool
  | .ref _ => false
  | _ => true
def miZip (ga : MA) : MI := fun env S => (ga env S).bind fun p => match p.1 with
  | [w, z] => if pureL w = true ∧ pureL z = true then (match W.list p.2 w, W.list p.2 z with
    | some xs, some ys => some (⟨zipD xs ys, none⟩, p.2)
    | _, _ => (W.tup w).bind fun xs => (W.tup z).bind fun ys => some (⟨zipD xs ys, none⟩, p.2)) else none
  | _ => none
theorem list_pure {K : PySem.W.Frag} {H0 : Hp} {m0 : Mp} {S0 : Sto} {w : W} {v : V} {xs : List D} (e : W.list S0 w = some xs) (hp : pureL w = true) (rl : Rel K H0 m0 S0) (r : WR K H0 m0 w v) :
    ∃ a, v = .ref a ∧ ∀ H m S, Rel K H m S → Gr K H0 m0 H m → ∃ vs, SqL K H a vs ∧ DRs K H m xs vs := by
  obtain ⟨a, h1, h2⟩ := list_stays (chk := none) e (by cases w <;> first | rfl | cases hp) rl r
  exact ⟨a, h1, fun H m S rl g => h2 H m S rl g rfl⟩
theorem mi_zip {e2 : Expr} {p tpos : Pos} {elts : List Expr} {kk : Nat} (hg : Gl X "zip") (hm : X.mg "zip" = none) (ha : PA X [e, e2] (tMA X.K ga))
    (hs : starEach [e, e2] X.env = (false, eval e X.env) :: starEach [e2] X.env := by rfl) (hpl : (backTo pos (starEach [e2] X.env)).any (·.1) = false := by rfl) :
    PI X (.Tuple elts kk tpos) (.Call (.Name "zip" p) [e, e2] [] pos) (tMI X.K (miZip ga)) :=
  PI.imp (RZ.pi_zipA hg hm ha hs hpl) fun σ H R ⟨env, S, m, w, S', er, rl, he, k⟩ => by
    unfold miZip at he
    obtain ⟨⟨ws, S1⟩, h1, he⟩ := bind_some he
    split at he
    · rename_i w1 w2 e0
      have e0 : ws = [w1, w2] := e0
      subst e0
      split at he
      · rename_i hp
        refine ⟨env, S, m, _, _, er, rl, h1, fun H1 m1 vs rl1 g1 r1 => ?_⟩
        obtain ⟨v, u, rfl, r2, r3⟩ := WRs.two r1
        split at he
        · rename_i xs ys h2 h3
          cases he
          obtain ⟨a, rfl, st⟩ := list_pure h2 hp.1 rl1 r2
          obtain ⟨b, rfl, st2⟩ := list_pure h3 hp.2 rl1 r3
          obtain ⟨vs, q1, q2⟩ := st H1 m1 S1 rl1 .refl
          obtain ⟨us, q3, q4⟩ := st2 H1 m1 S1 rl1 .refl
          refine ⟨a, b, vs, us, rfl, .inl ⟨q1, q3, k H1 m1 _ rl1 g1 ⟨fun i H m S rl g hc hi => ?_, fun i H m S v H' x rl g hc hx y => ?_, fun H m S rl g hc => ?_⟩⟩⟩
          · obtain ⟨vs, q1, q2⟩ := st H m S rl g
            obtain ⟨us, q3, q4⟩ := st2 H m S rl g
            have hi : i < (zipD xs ys).length := hi
            rw [zipD_length] at hi
            have h1 : i < vs.length := by rw [DRs.length q2]; omega
            have h2 : i < us.length := by rw [DRs.length q4]; omega
            exact ⟨vs, us, vs[i], us[i], q1, q3, by simp [h1], by simp [h2]⟩
          · obtain ⟨vs, q1, q2⟩ := st H m S rl g
            obtain ⟨us, q3, q4⟩ := st2 H m S rl g
            obtain ⟨x0, y0, z1, z2, rfl⟩ := zipD_get xs ys i x hx
            obtain ⟨T, a1, b1, rfl, hT, rfl, y1, y2⟩ := y
            obtain ⟨c1, c2, c3⟩ := q2.get z1
            obtain ⟨d1, d2, d3⟩ := q4.get z2
            have t1 := y1 vs q1
            have t2 := y2 us q3
            rw [c2] at t1; rw [d2] at t2
            cases t1; cases t2
            exact fresh_pair rl hT c3 d3
          · obtain ⟨vs, q1, q2⟩ := st H m S rl g
            obtain ⟨us, q3, q4⟩ := st2 H m S rl g
            refine ⟨vs, us, q1, q3, ?_⟩
            show vs.length ≤ (zipD xs ys).length ∨ us.length ≤ (zipD xs ys).length
            rw [zipD_length, DRs.length q2, DRs.length q4]
            omega
        · obtain ⟨xs, h2, he⟩ := bind_some he
          obtain ⟨ys, h3, he⟩ := bind_some he
          cases he
          obtain ⟨a, vs, rfl, q1, q2⟩ := W.tup_ok h2 r2
          obtain ⟨b, us, rfl, q3, q4⟩ := W.tup_ok h3 r3
          refine ⟨a, b, vs, us, rfl, .inr ⟨q1, q3, k H1 m1 _ rl1 g1 ⟨fun i H m S rl g hc hi => ?_, fun i H m S v H' x rl g hc hx y => ?_, fun H m S rl g hc => ?_⟩⟩⟩
          · have hi : i < (zipD xs ys).length := hi
            rw [zipD_length] at hi
            have h1 : i < vs.length := by rw [DRs.length q2]; omega
            have h2 : i < us.length := by rw [DRs.length q4]; omega
            exact ⟨vs, us, vs[i], us[i], g.tup _ _ q1, g.tup _ _ q3, by simp [h1], by simp [h2]⟩
          · obtain ⟨x0, y0, z1, z2, rfl⟩ := zipD_get xs ys i x hx
            obtain ⟨T, a1, b1, rfl, hT, rfl, y1, y2⟩ := y
            obtain ⟨c1, c2, c3⟩ := (DRs.gr g q2).get z1
            obtain ⟨d1, d2, d3⟩ := (DRs.gr g q4).get z2
            have t1 := y1 vs (g.tup _ _ q1)
            have t2 := y2 us (g.tup _ _ q3)
            rw [c2] at t1; rw [d2] at t2
            cases t1; cases t2
            exact fresh_pair rl hT c3 d3
          · refine ⟨vs, us, g.tup _ _ q1, g.tup _ _ q3, ?_⟩
            show vs.length ≤ (zipD xs ys).length ∨ us.length ≤ (zipD xs ys).length
            rw [zipD_length, DRs.length q2, DRs.length q4]
            omega
      · cases he
    · cases he

/-! ### for -/
def forM (k : Wk) (g : MG) (b : MS) : List D → MS
  | [] => fun env S => if k.ok S = true then some (.nx env S) else none
  | x :: xs => fun env S => if k.ok S = true then (g (.d x) env S).bind fun p => (b p.1 p.2).bind fun r => (match r with
    | .nx e S2 => forM k g b xs e S2
    | .ct e S2 => forM k g b xs e S2
    | .bk e S2 => some (.nx e S2)
    | .rt w S2 => some (.rt w S2)) else none
def sFor (f : MI) (g : MG) (b : MS) : MS := fun env S => (f env S).bind fun p => forM p.1 g b p.1.its env p.2
theorem ms_for {iter : Expr} {body : List Stmt} {fi : MI} {g : MG} {s1 : MS} (hp : PassesOwn (model X.prog X.w) X.A X.env X.xe) (hc : X.calm = true) (hi : PI X tg iter (tMI X.K fi)) (hg : PG X tg (tMG X.K g)) (hb : PSs X body (tMS X.K s1)) (hfs : ∀ x, foldedSetIterable iter X.env x = pure x := by intro _; rfl) :
    PS X (.For tg iter body [] pos) (tMS X.K (sFor fi g s1)) :=
  PS.imp (ps_for hp hc hi hg hb hfs) fun D σ H ⟨env, S, m, r, er, rl, he, k⟩ => by
    unfold sFor at he
    obtain ⟨⟨w, S1⟩, h1, he⟩ := bind_some he
    refine ⟨env, S, m, w, S1, er, rl, h1, fun H1 m1 J rl1 g1 wk => ?_⟩
    refine ⟨fun i n σ H => n = w.its.length - i ∧ i ≤ w.its.length ∧ ∃ env S m r, ER X.K H m env σ ∧ Rel X.K H m S ∧ forM w g s1 (w.its.drop i) env S = some r ∧ FlP X.K H m D r ∧ Gr X.K H1 m1 H m,
      ⟨_, rfl, Nat.zero_le _, env, S1, m1, r, er.gr g1, rl1, by simpa using he, k.gr g1, .refl⟩, ?_⟩
    rintro i n σ H ⟨rfl, hi, env, S, m, r, er, rl, he, k, gg⟩
    by_cases hlt : i < w.its.length
    · obtain ⟨x, hx⟩ : ∃ x, w.its[i]? = some x := ⟨w.its[i], by simp [hlt]⟩
      have hd : w.its.drop i = x :: w.its.drop (i + 1) := by
        rw [List.drop_eq_getElem_cons hlt]
        rw [List.getElem?_eq_getElem hlt] at hx
        rw [Option.some.inj hx]
      rw [hd] at he
      unfold forM at he
      split at he
      · rename_i hc
        obtain ⟨⟨env2, S2⟩, h2, he⟩ := bind_some he
        obtain ⟨r2, h3, he⟩ := bind_some he
        refine .inr ⟨wk.go i H m S rl gg hc hlt, fun σ' H' => ∃ n', n' = w.its.length - (i + 1) ∧ i + 1 ≤ w.its.length ∧ ∃ env S m r, ER X.K H' m env σ' ∧ Rel X.K H' m S ∧ forM w g s1 (w.its.drop (i + 1)) env S = some r ∧ FlP X.K H' m D r ∧ Gr X.K H1 m1 H' m,
          fun σ' H' ⟨n', q⟩ => ⟨n', by omega, q⟩, fun v H' y => ?_⟩
        obtain ⟨rl', g', rx⟩ := wk.yld i H m S v H' x rl gg hc hx y
        refine ⟨env, S, m, .d x, env2, S2, er.gr g', rl', rx, h2, fun σ2 H2 m2 er2 rl2 g2 => ?_⟩
        have g02 := (gg.trans g').trans g2
        have k2 := FlP.gr (g'.trans g2) k
        refine ⟨env2, S2, m2, r2, er2, rl2, h3, ?_⟩
        cases r2 with
        | nx e S3 => exact fun σ3 H3 m3 er3 rl3 g3 => ⟨_, rfl, by omega, e, S3, m3, r, er3, rl3, he, k2.gr g3, g02.trans g3⟩
        | ct e S3 => exact fun σ3 H3 m3 er3 rl3 g3 => ⟨_, rfl, by omega, e, S3, m3, r, er3, rl3, he, k2.gr g3, g02.trans g3⟩
        | bk e S3 => cases he; exact k2
        | rt w S3 => cases he; exact k2
      · cases he
    · have e : i = w.its.length := by omega
      subst e
      rw [List.drop_length] at he
      unfold forM at he
      split at he
      · rename_i hc
        cases he
        exact .inl ⟨wk.stop H m S rl gg hc, k σ H m er rl .refl⟩
      · cases he

/-! ### comprehensions -/
/-- a comprehension's target: a name's slot, or a tuple of slots -/
inductive CT where
  | nm (i : Nat) | tp (is : List Nat)
def cTs : List Nat → TGs
  | [] => gNil
  | i :: is => gCons (gName i) (cTs is)
def cT (K : PySem.W.Frag) : CT → TG
  | .nm i => gName i
  | .tp is => gTup K is.length (cTs is)
def setAll : List Nat → List D → Env → Option Env
  | [], [], env => some env
  | i :: is, x :: xs, env => setAll is xs (env.set i (some (.d x)))
  | _, _, _ => none
def CT.set : CT → D → Env → Option Env
  | .nm i, x, env => some (env.set i (some (.d x)))
  | .tp is, .tup xs, env => setAll is xs env
  | .tp _, _, _ => none
def CT.in (vs : List Nat) : CT → Bool
  | .nm i => vs.contains i
  | .tp is => is.all fun i => vs.contains i
def wipeE (env : Env) : List Nat → Env
  | [] => env
  | v :: vs => (wipeE env vs).set v none
theorem ER.wipe {K : PySem.W.Frag} {H : Hp} {m : Mp} {env : Env} {σ : St} (er : ER K H m env σ) : ∀ vs : List Nat, ER K H m (wipeE env vs) (L2.wipe σ vs)
  | [] => er
  | v :: vs => (ER.wipe er vs).none
theorem wipe_set {σ : St} {i : Nat} {v : Option V} : ∀ {vs : List Nat}, i ∈ vs → L2.wipe (σ.set i v) vs = L2.wipe σ vs
  | [], h => nomatch h
  | j :: vs, h => by
    show (L2.wipe (σ.set i v) vs).set j none = (L2.wipe σ vs).set j none
    by_cases c : i ∈ vs
    · rw [wipe_set c]
    · have e : i = j := by
        rcases List.mem_cons.mp h with e | e
        · exact e
        · exact absurd e c
      subst e
      have key : ∀ (us : List Nat), i ∉ us → L2.wipe (σ.set i v) us = (L2.wipe σ us).set i v := by
        intro us
        induction us with
        | nil => intro _; rfl
        | cons u us ih =>
          intro hu
          show (L2.wipe (σ.set i v) us).set u none = ((L2.wipe σ us).set u none).set i v
          rw [ih (fun z => hu (List.mem_cons_of_mem _ z)), List.set_comm _ _ (fun z => hu (by rw [z]; exact List.mem_cons_self))]
      rw [key vs c, List.set_set]
theorem wipe_wipe {σ : St} : ∀ {us vs : List Nat}, (∀ u ∈ us, u ∈ vs) → L2.wipe (L2.wipe σ us) vs = L2.wipe σ vs
  | [], _, _ => rfl
  | u :: us, vs, h => by
    show L2.wipe ((L2.wipe σ us).set u none) vs = _
    rw [wipe_set (h u List.mem_cons_self)]
    exact wipe_wipe fun z hz => h z (List.mem_cons_of_mem _ hz)
theorem cTs_ok {K : PySem.W.Frag} {H : Hp} {m : Mp} {vs : List Nat} : ∀ {is : List Nat} {xs : List D} {us : List V} {env env' : Env} {σ : St} {Q : St → Hp → Prop}, setAll is xs env = some env' → (is.all fun i => vs.contains i) = true → ER K H m env σ → DRs K H m xs us →
    (∀ σ', ER K H m env' σ' → L2.wipe σ' vs = L2.wipe σ vs → Q σ' H) → cTs is us σ H Q
  | [], [], us, env, env', σ, Q, e, hv, er, r, k => by
    cases e
    unfold DRs at r
    exact ⟨r, k σ er rfl⟩
  | i :: is, x :: xs, us, env, env', σ, Q, e, hv, er, r, k => by
    unfold DRs at r
    obtain ⟨v, us', rfl, r1, r2⟩ := r
    rw [List.all_cons, Bool.and_eq_true] at hv
    refine ⟨v, us', rfl, ?_⟩
    refine cTs_ok (vs := vs) e hv.2 (er.set (w := .d x) (show WR K H m (.d x) v from r1)) r2 fun σ' er' hw => k σ' er' (hw.trans (wipe_set (by simpa using hv.1)))
  | [], _ :: _, _, _, _, _, _, e, _, _, _, _ => by cases e
  | _ :: _, [], _, _, _, _, _, e, _, _, _, _ => by cases e
theorem cT_ok {K : PySem.W.Frag} {H : Hp} {m : Mp} {vs : List Nat} {t : CT} {x : D} {v : V} {env env' : Env} {σ : St} {Q : St → Hp → Prop} (e : t.set x env = some env') (hv : t.in vs = true) (er : ER K H m env σ) (r : DR K H m x v)
    (k : ∀ σ', ER K H m env' σ' → L2.wipe σ' vs = L2.wipe σ vs → Q σ' H) : cT K t v σ H Q := by
  cases t with
  | nm i =>
    cases e
    exact k _ (er.set (w := .d x) (show WR K H m (.d x) v from r)) (wipe_set (by simpa [CT.in] using hv))
  | tp is =>
    cases x with
    | tup xs =>
      unfold DR at r
      obtain ⟨a, us, rfl, h1, h2⟩ := r
      have hl : ∀ {is : List Nat} {xs : List D} {env env' : Env}, setAll is xs env = some env' → xs.length = is.length := by
        intro is
        induction is with
        | nil => intro xs env env' e; cases xs with | nil => rfl | cons _ _ => cases e
        | cons i is ih => intro xs env env' e; cases xs with | nil => cases e | cons x xs => simp [ih (xs := xs) e]
      exact ⟨a, us, rfl, h1, by rw [DRs.length h2]; exact hl e, cTs_ok e hv er h2 k⟩
    | _ => cases e
/-- [e for t in items if c] -/
def lcM (k : Wk) (t : CT) (c : MB) (e : ME) (env : Env) : List D → List D → Sto → Option (List D × Sto)
  | [], acc, S => if k.ok S = true then some (acc, S) else none
  | x :: xs, acc, S => if k.ok S = true then (t.set x env).bind fun env1 => (c env1 S).bind fun p => if p.1 = true then
      (e env1 p.2).bind fun q => (give [q.1] q.2).bind fun r => if acc.length < sizeLine then lcM k t c e env xs (acc ++ r.1) r.2 else none
    else lcM k t c e env xs acc p.2 else none
def mLc (mk : Mk) (fi : MI) (t : CT) (c : MB) (e : ME) (vs : List Nat) : ME := fun env S => if t.in vs = true then (fi env S).bind fun p => (lcM p.1 t c e (wipeE env vs) p.1.its [] p.2).bind fun q => some (newL mk q.1 q.2) else none
theorem lc_of {K : PySem.W.Frag} {mk : Mk} {fi : MI} {t : CT} {c : MB} {f : ME} {vs : List Nat} {σ : St} {H : Hp} {Q : VK} (h : tM K (mLc mk fi t c f vs) σ H Q) : tLc (tMI K fi) (cT K t) (tMB K c) (tM K f) vs σ H Q := by
  obtain ⟨env, S, m, w, S', er, rl, he, k⟩ := h
  unfold mLc at he
  split at he
  · rename_i hin
    obtain ⟨⟨wk, S1⟩, h1, he⟩ := bind_some he
    obtain ⟨⟨ds, S2⟩, h2, he⟩ := bind_some he
    have he := Option.some.inj he
    refine ⟨env, S, m, wk, S1, er, rl, h1, fun H1 m1 J rl1 g1 wj DD hD => ?_⟩
    have gD : Gr K H1 m1 (upd H1 DD (.lst [])) (m1.guard DD) := gr_guard rl1 hD
    have er1 : ER K (upd H1 DD (.lst [])) (m1.guard DD) (wipeE env vs) (L2.wipe σ vs) := ((er.gr g1).wipe vs).gr gD
    have nN : ¬ m1.N DD := (rl1.free hD).2
    refine ⟨fun i n H => n = wk.its.length - i ∧ i ≤ wk.its.length ∧ ∃ S m acc us, ER K H m (wipeE env vs) (L2.wipe σ vs) ∧ Rel K H m S ∧ Gr K H1 m1 H m ∧ H DD = some (.lst us) ∧ m.N DD ∧ DRs K H m acc us ∧ lcM wk t c f (wipeE env vs) (wk.its.drop i) acc S = some (ds, S2),
      ⟨_, rfl, Nat.zero_le _, S1, m1.guard DD, [], [], er1, rl1.guard hD, gD, upd_same, .inr rfl, DRs.nil, by simpa using h2⟩, ?_⟩
    rintro i n H2 ⟨rfl, hi, T, m2, acc, us, er2, rl2, g2, hDD, hN, racc, h3⟩
    by_cases hlt : i < wk.its.length
    · obtain ⟨x, hx⟩ : ∃ x, wk.its[i]? = some x := ⟨wk.its[i], by simp [hlt]⟩
      have hd : wk.its.drop i = x :: wk.its.drop (i + 1) := by
        rw [List.drop_eq_getElem_cons hlt]
        rw [List.getElem?_eq_getElem hlt] at hx
        rw [Option.some.inj hx]
      rw [hd] at h3
      unfold lcM at h3
      split at h3
      · rename_i hc
        obtain ⟨env1, h4, h3⟩ := bind_some h3
        obtain ⟨⟨b, S3⟩, h5, h3⟩ := bind_some h3
        refine .inr ⟨wj.go i H2 m2 T rl2 g2 hc hlt, fun H' => ∃ n', n' = wk.its.length - (i + 1) ∧ i + 1 ≤ wk.its.length ∧ ∃ S m acc us, ER K H' m (wipeE env vs) (L2.wipe σ vs) ∧ Rel K H' m S ∧ Gr K H1 m1 H' m ∧ H' DD = some (.lst us) ∧ m.N DD ∧ DRs K H' m acc us ∧ lcM wk t c f (wipeE env vs) (wk.its.drop (i + 1)) acc S = some (ds, S2),
          fun H' ⟨n', q⟩ => ⟨n', by omega, q⟩, fun v H' y => ?_⟩
        obtain ⟨rl', g', rx⟩ := wj.yld i H2 m2 T v H' x rl2 g2 hc hx y
        refine cT_ok h4 hin (er2.gr g') rx fun σ' er' hw => ⟨hw.trans (wipe_wipe fun _ z => z), ?_⟩
        refine ⟨env1, T, m2, b, S3, er', rl', h5, fun H3 m3 rl3 g3 => ?_⟩
        have g13 := (g2.trans g').trans g3
        have g23 := g'.trans g3
        have hD3 := g23.prot DD us hDD hN
        cases b with
        | false =>
          refine iteF ?_
          exact ⟨_, rfl, by omega, S3, m3, acc, us, er2.gr g23, rl3, g13, hD3, g23.sub _ hN, DRs.gr g23 racc, by simpa using h3⟩
        | true =>
          refine iteT ?_
          simp only [if_true] at h3
          obtain ⟨⟨w1, S4⟩, h6, h3⟩ := bind_some h3
          obtain ⟨⟨zs, S5⟩, h7, h3⟩ := bind_some h3
          split at h3
          · rename_i hz
            refine ⟨env1, S3, m3, w1, S4, er'.gr g3, rl3, h6, fun H4 m4 v1 rl4 g4 r4 => ?_⟩
            obtain ⟨m5, rl5, g5, r5⟩ := give_ok h7 rl4 (show WRs K H4 m4 [w1] [v1] from ⟨v1, [], rfl, r4, rfl⟩)
            have g25 := (g23.trans g4).trans g5
            have g15 := (g13.trans g4).trans g5
            have hD5 := g25.prot DD us hDD hN
            have hN5 := g25.sub _ hN
            refine ⟨us, hD5, by rw [DRs.length racc]; exact hz, _, rfl, by omega, S5, m5, acc ++ zs, us ++ [v1], ?_, rl5.guarded hN5 hD5, g15.guarded hD hD5, upd_same, hN5, DRs.guarded hN5 hD5 ((DRs.gr g25 racc).append r5), h3⟩
            have er5 := er2.gr g25
            refine ⟨er5.len, fun j z e => ?_⟩
            obtain ⟨u, q1, q2⟩ := er5.val j z e
            refine ⟨u, q1, ?_⟩
            cases z with
            | d x => exact DR.mv (fun _ _ z => SqT.written hD5 z) (fun a xs z k => lst_guarded hN5 a xs z k) q2
            | scr ns =>
              obtain ⟨a, e, q3⟩ := q2
              exact ⟨a, e, Fz.written hD5 q3⟩
            | ref n => exact q2
          · cases h3
      · cases h3
    · have e : i = wk.its.length := by omega
      subst e
      rw [List.drop_length] at h3
      unfold lcM at h3
      split at h3
      · rename_i hc
        obtain ⟨rfl, rfl⟩ : acc = ds ∧ T = S2 := by simpa using h3
        refine .inl ⟨wj.stop H2 m2 T rl2 g2 hc, ?_⟩
        cases mk with
        | pure =>
          cases he
          refine k H2 ⟨m2.l, m1.N⟩ _ (rl2.un g2.sub) (g1.trans g2.un) ?_
          unfold WR DR
          exact ⟨DD, us, rfl, hDD, ⟨fun z => rl2.no DD z hN, nN⟩, DRs.fewer (fun _ z => out_un g2.sub z) racc⟩
        | own =>
          cases he
          refine k H2 ⟨m2.l ++ [some DD], m1.N⟩ _ (rl2.unAdd g2.sub hN nN hDD racc) (g1.trans (g2.unAdd hD)) ⟨by simp [rl2.len], fun a e => ?_⟩
          rw [rl2.len] at e
          have e : (m2.l ++ [some DD])[m2.l.length]? = some (some a) := e
          rw [List.getElem?_append_right (Nat.le_refl _)] at e
          simp at e
          rw [e]
      · cases h3
  · cases he
end
end MW
end
section
set_option maxRecDepth 100000
/-! MW, part g: defs and their calls; the law's end. -/
namespace MW
open PySem PySem.Spec L2

/-! ### what a def gives -/
def startE (N : Nat) (ws : List W) : Env := ws.map some ++ List.replicate (N - ws.length) none
/-- what is handed back: new lists are given away (keep: they stay in the own store) -/
def fin (keep : Bool) (k : Nat) (w : W) (S : Sto) : Option (W × Sto) := if keep = true then some (w, S) else match w with
  | .ref n => if n < k then some (.ref n, S.take k) else (match S[n]? with
    | some (.lst xs) => some (.d (.lst xs), S.take k)
    | _ => none)
  | w => some (w, S.take k)
def runDef (N n : Nat) (keep : Bool) (body : MS) : List W → Sto → Option (W × Sto) := fun ws S => if ws.length = n then (body (startE N ws) S).bind fun r => (match r with
  | .nx _ S1 => some (.d .non, S1.take S.length)
  | .rt w S1 => fin keep S.length w S1
  | _ => none) else none
def spM (K : PySem.W.Frag) (F : List W → Sto → Option (W × Sto)) : Sp := fun vs H Q _ => ∃ ws S m w S', WRs K H m ws vs ∧ Rel K H m S ∧ F ws S = some (w, S') ∧ ∀ H' m' v, Rel K H' m' S' → Gr K H m H' m' → WR K H' m' w v → Q v H'
theorem WRs.length {K : PySem.W.Frag} {H : Hp} {m : Mp} : ∀ {ws : List W} {vs : List V}, WRs K H m ws vs → vs.length = ws.length
  | [], _, h => by unfold WRs at h; subst h; rfl
  | w :: ws, vs, h => by
    obtain ⟨v, vs', rfl, _, h2⟩ := h
    simp [WRs.length h2]
theorem WRs.get {K : PySem.W.Frag} {H : Hp} {m : Mp} : ∀ {ws : List W} {vs : List V} {i : Nat} {w : W}, WRs K H m ws vs → ws[i]? = some w → ∃ v, vs[i]? = some v ∧ WR K H m w v
  | [], _, _, _, _, e => by simp at e
  | w :: ws, vs, 0, x, h, e => by
    obtain ⟨v, vs', rfl, h1, h2⟩ := h
    simp at e; subst e
    exact ⟨v, rfl, h1⟩
  | w :: ws, vs, i + 1, x, h, e => by
    obtain ⟨v, vs', rfl, h1, h2⟩ := h
    obtain ⟨u, e1, r⟩ := WRs.get (i := i) h2 (by simpa using e)
    exact ⟨u, by simpa using e1, r⟩
theorem er_start {K : PySem.W.Frag} {H : Hp} {m : Mp} {ws : List W} {vs : List V} {N : List Str} (h : WRs K H m ws vs) : ER K H m (startE N.length ws) (L2.start N vs) := by
  have hl := WRs.length h
  refine ⟨by simp [startE, L2.start, hl], fun i w e => ?_⟩
  unfold startE at e
  by_cases c : i < (ws.map some).length
  · rw [List.getElem?_append_left c, List.getElem?_map] at e
    cases q : ws[i]? with
    | none => rw [q] at e; cases e
    | some z =>
      rw [q] at e
      cases e
      obtain ⟨v, e1, r⟩ := h.get q
      refine ⟨v, ?_, r⟩
      unfold L2.start
      rw [List.getElem?_append_left (by simpa [hl] using c), List.getElem?_map, e1]
      rfl
  · rw [List.getElem?_append_right (by omega)] at e
    have := List.mem_of_getElem? e
    rw [List.mem_replicate] at this
    cases this.2
theorem fin_ok {K : PySem.W.Frag} {H H' : Hp} {m m' : Mp} {S S' T : Sto} {keep : Bool} {w w' : W} {v : V} {Q : VK} (e : fin keep S.length w S' = some (w', T)) (rl : Rel K H m S) (rl' : Rel K H' m' S') (g : Gr K H m H' m') (r : WR K H' m' w v)
    (k : ∀ H' m' v, Rel K H' m' T → Gr K H m H' m' → WR K H' m' w' v → Q v H') : Q v H' := by
  unfold fin at e
  split at e
  · cases e
    exact k H' m' v rl' g r
  · have rt := rl'.take (k := S.length)
    have gt := g.take (k := S.length) rl.len
    split at e
    · rename_i n
      split at e
      · rename_i hn
        cases e
        refine k H' _ v rt gt ⟨?_, fun a h => r.2 a (take_get h)⟩
        show n < (m'.l.take S.length).length
        rw [List.length_take]
        have := r.1
        omega
      · rename_i hn
        split at e
        · rename_i xs e0
          cases e
          obtain ⟨a, vs, rfl, h1, h2, h3⟩ := ref_ok e0 rl' r
          exact k H' _ _ rt gt (left rl' (by omega) h1 h2 h3)
        · cases e
    · cases e
      refine k H' _ v rt gt ?_
      cases w with
      | d x => exact DR.fewer (fun _ z => out_take z) r
      | scr ns => exact r
      | ref n => rename_i hx; exact absurd rfl (hx n)
section
variable {P : Program} {w : World} {K : PySem.W.Frag} {mg : Str → Option Value} {base : Heap}
theorem def_ok {x qual : Str} {st : Stmt} {f : Addr} {fd : FuncData} {N ps : List Str} {k : Nat} {keep : Bool} {body : MS} (F : Fun K x qual st f fd) (sc : FnScope N ps (defScope st))
    (hb : ∀ (cdv : Value) (A : Around) (outer : List PySem.Env) (s : Shared) (H : Hp) (E : XK), Room k (A.deeper (PyProof.Rows.envOfC qual (defScope st) s.heap.objs.size f cdv)) → PSs (cxOf CX0 P w K mg base N qual (defScope st) f cdv A outer s H E).nox (defBody st) (tMS K body)) :
    FnOk P w K mg base CX0 (k + 1) f fd ps (spM K (runDef N.length ps.length keep body)) := by
  refine F.ok sc (fun vs H Q E h => ?_) (fun cdv A outer s H vs Q E hr h => ⟨_, hb cdv A outer s H E hr, ?_⟩)
  · obtain ⟨ws, S, m, w, S', r, rl, e, k⟩ := h
    unfold runDef at e
    split at e
    · rename_i hl
      rw [WRs.length r, hl]
    · cases e
  · obtain ⟨ws, S, m, w, S', r, rl, e, k⟩ := h
    unfold runDef at e
    split at e
    · rename_i hl
      obtain ⟨fl, h1, e⟩ := bind_some e
      refine ⟨startE N.length ws, S, m, fl, er_start r, rl, h1, ?_⟩
      cases fl with
      | nx en S1 =>
        cases e
        exact fun σ' H' m' er' rl' g' => k H' _ _ (rl'.take) (g'.take rl.len) WR.non
      | rt w1 S1 => exact fun H' m' v rl' g' r' => fin_ok e rl rl' g' r' k
      | bk _ _ => cases e
      | ct _ _ => cases e
    · cases e
end

/-! ### defs of data -/
mutual
def D.noLst : D → Bool
  | .lst _ => false
  | .tup xs => D.noLsts xs
  | _ => true
def D.noLsts : List D → Bool
  | [] => true
  | x :: xs => D.noLst x && D.noLsts xs
end
mutual
theorem DR.any {K : PySem.W.Frag} {H : Hp} {m m' : Mp} : ∀ {x : D} {v : V}, D.noLst x = true → DR K H m x v → DR K H m' x v
  | .non, _, _, h => h
  | .bl _, _, _, h => h
  | .int _, _, _, h => h
  | .str _, _, _, h => h
  | .tup xs, v, q, h => by
    unfold DR at h ⊢
    obtain ⟨a, vs, e, h1, h2⟩ := h
    exact ⟨a, vs, e, h1, DRs.any (by simpa [D.noLst] using q) h2⟩
  | .lst _, _, q, _ => by cases q
theorem DRs.any {K : PySem.W.Frag} {H : Hp} {m m' : Mp} : ∀ {xs : List D} {vs : List V}, D.noLsts xs = true → DRs K H m xs vs → DRs K H m' xs vs
  | [], _, _, h => h
  | x :: xs, vs, q, h => by
    simp only [D.noLsts, Bool.and_eq_true] at q
    unfold DRs at h ⊢
    obtain ⟨v, vs', e, h1, h2⟩ := h
    exact ⟨v, vs', e, DR.any q.1 h1, DRs.any q.2 h2⟩
end
def runPure (N n : Nat) (body : MS) : List D → Option D := fun ds => if ds.length = n then (body (startE N (ds.map W.d)) []).bind fun r => (match r with
  | .nx _ _ => some .non
  | .rt (.d x) _ => some x
  | .rt (.ref k) S => (match S[k]? with
    | some (.lst xs) => some (.lst xs)
    | _ => none)
  | _ => none) else none
/-- data of the arguments; is any of them a list of the own store? -/
def dats (S : Sto) : List W → Option (List D × Bool)
  | [] => some ([], true)
  | .d x :: ws => (dats S ws).bind fun p => some (x :: p.1, p.2)
  | .ref n :: ws => match S[n]? with
    | some (.lst xs) => (dats S ws).bind fun p => some (.lst xs :: p.1, false)
    | _ => none
  | .scr _ :: _ => none
def callP (F : List D → Option D) : List W → Sto → Option (W × Sto) := fun ws S => (dats S ws).bind fun p => (F p.1).bind fun x => if p.2 = true ∨ x.noLst = true then some (.d x, S) else none
theorem dats_ok {K : PySem.W.Frag} {H : Hp} {m : Mp} {S : Sto} (rl : Rel K H m S) : ∀ {ws : List W} {vs : List V} {ds : List D} {pure : Bool}, dats S ws = some (ds, pure) → WRs K H m ws vs →
    ∃ B : Addr → Prop, (pure = true → ∀ a, ¬ B a) ∧ (∀ a, B a → some a ∈ m.l) ∧ DRs K H ⟨[], fun a => (m.N a ∨ some a ∈ m.l) ∧ ¬ B a⟩ ds vs
  | [], vs, ds, pure, e, r => by
    cases e
    exact ⟨fun _ => False, fun _ _ z => z, fun _ z => z.elim, r⟩
  | .d x :: ws, vs, ds, pure, e, r => by
    unfold dats at e
    obtain ⟨⟨xs, p⟩, h1, e⟩ := bind_some e
    cases e
    obtain ⟨v, vs', rfl, r1, r2⟩ := r
    obtain ⟨B, b1, b2, b3⟩ := dats_ok rl h1 r2
    refine ⟨B, b1, b2, DRs.cons (DR.fewer (fun a h => ⟨List.not_mem_nil, fun z => ?_⟩) r1) b3⟩
    exact z.1.elim h.2 h.1
  | .ref n :: ws, vs, ds, pure, e, r => by
    unfold dats at e
    split at e
    · rename_i xs e0
      obtain ⟨⟨ys, p⟩, h1, e⟩ := bind_some e
      cases e
      obtain ⟨v, vs', rfl, r1, r2⟩ := r
      obtain ⟨B, b1, b2, b3⟩ := dats_ok rl h1 r2
      obtain ⟨a, us, rfl, h2, h3, h4⟩ := ref_ok e0 rl r1
      refine ⟨fun b => B b ∨ b = a, (fun z => Bool.noConfusion z), fun b h => ?_, DRs.cons ?_ ?_⟩
      · rcases h with h | h
        · exact b2 b h
        · rw [h]; exact List.mem_of_getElem? h2
      · unfold DR
        refine ⟨a, us, rfl, h3, ⟨List.not_mem_nil, fun z => z.2 (.inr rfl)⟩, DRs.fewer (fun b h => ⟨List.not_mem_nil, fun z => ?_⟩) h4⟩
        exact z.1.elim h.2 h.1
      · refine DRs.fewer (fun b h => ?_) b3
        refine ⟨List.not_mem_nil, fun z => h.2 ?_⟩
        have z : (m.N b ∨ some b ∈ m.l) ∧ ¬ (B b ∨ b = a) := z
        exact ⟨z.1, fun q => z.2 (Or.inl q)⟩
    · cases e
  | .scr _ :: _, _, _, _, e, _ => by cases e
theorem callP_sp {K : PySem.W.Frag} {F : List D → Option D} {vs : List V} {H : Hp} {Q : VK} {E : XK} (h : spM K (callP F) vs H Q E) :
    ∃ ds m x, DRs K H m ds vs ∧ Rel K H m [] ∧ F ds = some x ∧ ∀ H' m' v, Gr K H m H' m' → DR K H' m' x v → Q v H' := by
  obtain ⟨ws, S, m, w, S', r, rl, e, k⟩ := h
  unfold callP at e
  obtain ⟨⟨ds, pure⟩, h1, e⟩ := bind_some e
  obtain ⟨x, h2, e⟩ := bind_some e
  split at e
  · rename_i hx
    cases e
    obtain ⟨B, b1, b2, b3⟩ := dats_ok rl h1 r
    have hl : ∀ a, some a ∈ m.l → B a ∨ ¬ B a := fun a _ => Classical.em _
    refine ⟨ds, _, x, b3, ⟨rfl, fun i j a h => (by simp at h), fun n o a h => (by simp at h), fun a h => (nomatch h), fun a h => ?_⟩, h2, fun H' m' v g rx => ?_⟩
    · rcases h.1 with z | z
      · exact rl.nl a z
      · exact rl.mem z
    · have live : ∀ a xs, H a = some (.lst xs) → some a ∈ m.l → H' a = some (.lst xs) := fun a xs e hm => by
        rcases Classical.em (B a) with z | z
        · exact (g.lst a xs e ⟨List.not_mem_nil, fun q => q.2 z⟩).1
        · exact g.prot a xs e ⟨.inr hm, z⟩
      have hout : ∀ a xs, H a = some (.lst xs) → m.out a → H' a = some (.lst xs) ∧ m.out a := fun a xs e ho => ⟨(g.lst a xs e ⟨List.not_mem_nil, fun q => q.1.elim ho.2 ho.1⟩).1, ho⟩
      have gc : Gr K H m H' m := ⟨g.tup, hout, g.fz, Nat.le_refl _, fun _ _ _ q => q, fun _ q => q, fun a xs e hn => g.prot a xs e ⟨.inl hn, fun z => rl.no a (b2 a z) hn⟩⟩
      refine k H' m v ⟨rl.len, rl.nd, fun n o a q1 q2 => (rl.ob n o a q1 q2).gr gc fun b xs e q => live b xs q (by rw [← e]; exact List.mem_of_getElem? q2), rl.no, fun a hn => ?_⟩ gc ?_
      · obtain ⟨xs, q⟩ := rl.nl a hn
        exact ⟨xs, gc.prot a xs q hn⟩
      · rcases hx with hx | hx
        · refine DR.fewer (fun a ho => ?_) rx
          have : ¬ m'.N a := ho.2
          have nB := b1 hx a
          refine ⟨fun z => this (g.sub a ⟨.inr z, nB⟩), fun z => this (g.sub a ⟨.inl z, nB⟩)⟩
        · exact DR.any hx rx
  · cases e
section
variable {P : Program} {w : World} {K : PySem.W.Frag} {mg : Str → Option Value} {base : Heap}
theorem def_okP {x qual : Str} {st : Stmt} {f : Addr} {fd : FuncData} {N ps : List Str} {k : Nat} {body : MS} (F : Fun K x qual st f fd) (sc : FnScope N ps (defScope st))
    (hb : ∀ (cdv : Value) (A : Around) (outer : List PySem.Env) (s : Shared) (H : Hp) (E : XK), Room k (A.deeper (PyProof.Rows.envOfC qual (defScope st) s.heap.objs.size f cdv)) → PSs (cxOf CX0 P w K mg base N qual (defScope st) f cdv A outer s H E).nox (defBody st) (tMS K body)) :
    FnOk P w K mg base CX0 (k + 1) f fd ps (spM K (callP (runPure N.length ps.length body))) := by
  refine F.ok sc (fun vs H Q E h => ?_) (fun cdv A outer s H vs Q E hr h => ⟨_, hb cdv A outer s H E hr, ?_⟩)
  · obtain ⟨ds, m, y, r, rl, e, k⟩ := callP_sp h
    unfold runPure at e
    split at e
    · rename_i hl
      rw [DRs.length r, hl]
    · cases e
  · obtain ⟨ds, m, y, r, rl, e, k⟩ := callP_sp h
    unfold runPure at e
    split at e
    · rename_i hl
      obtain ⟨fl, h1, e⟩ := bind_some e
      refine ⟨startE N.length (ds.map W.d), [], m, fl, er_start (DRs.ws r), rl, h1, ?_⟩
      have h0 : 0 = m.l.length := rl.len
      cases fl with
      | nx en S1 =>
        cases e
        exact fun σ' H' m' er' rl' g' => k H' _ _ g' (DR.non K H' m')
      | rt w1 S1 =>
        refine fun H' m' v rl' g' r' => ?_
        cases w1 with
        | d z =>
          cases e
          exact k H' m' v g' r'
        | scr _ => cases e
        | ref n =>
          have e : (match S1[n]? with | some (.lst xs) => some (D.lst xs) | _ => none) = some y := e
          split at e
          · rename_i xs e0
            cases e
            obtain ⟨a, vs, rfl, q1, q2, q3⟩ := ref_ok e0 rl' r'
            exact k H' _ _ (g'.take h0) (left rl' (Nat.zero_le _) q1 q2 q3)
          · cases e
      | bk _ _ => cases e
      | ct _ _ => cases e
    · cases e
end

/-! ### calls -/
section
variable {X : Cx} {CX : CXT} {k : Nat} {f : Addr} {fd : FuncData} {ps ks : List Str} {x : Str} {p pos : Pos} {e : Expr} {es : List Expr} {kws : List Keyword} {ga gk : MA} {F : List W → Sto → Option (W × Sto)}
theorem sp_call {σ : St} {H : Hp} {Q : VK} {E : XK} (h : tM X.K (mCall F ga) σ H Q) : tCall (spM X.K F) [] E (tMA X.K ga) σ H Q := by
  obtain ⟨env, S, m, w, S', er, rl, he, k⟩ := h
  unfold mCall at he
  obtain ⟨⟨ws, S1⟩, h1, he⟩ := bind_some he
  refine ⟨env, S, m, ws, S1, er, rl, h1, fun H1 m1 vs rl1 g1 r1 => ?_⟩
  show spM X.K F (vs ++ []) H1 Q E
  rw [List.append_nil]
  exact ⟨ws, S1, m1, w, S', r1, rl1, he, fun H' m' v rl' g' => k H' m' v rl' (g1.trans g')⟩
theorem me_call (G : FnOk X.prog X.w X.K X.mg X.base CX0 k f fd ps (spM X.K F)) (hr : Room k X.A) (hg : Gl X x) (hm : X.mg x = some (.ref f)) (hk : PySem.W.keepIn X.K (.ref f) = true) (hb : Binds X.K fd ps [])
    (ha : PA X (e :: es) (tMA X.K ga)) (hdb : (x == ("__debug__" : Str)) = false := by decide) (he : starEach (e :: es) X.env = (false, eval e X.env) :: starEach es X.env := by rfl) (hpl : (backTo pos (starEach es X.env)).any (·.1) = false := by rfl) :
    PE X (.Call (.Name x p) (e :: es) [] pos) (tM X.K (mCall F ga)) :=
  PE.imp (pe_call G hr hg hm hk hb .nil pass0 ha hdb he hpl) fun σ H Q h => sp_call h
theorem me_call0 (G : FnOk X.prog X.w X.K X.mg X.base CX0 k f fd ps (spM X.K F)) (hr : Room k X.A) (hg : Gl X x) (hm : X.mg x = some (.ref f)) (hk : PySem.W.keepIn X.K (.ref f) = true) (hb : Binds X.K fd ps [])
    (hdb : (x == ("__debug__" : Str)) = false := by decide) : PE X (.Call (.Name x p) [] [] pos) (tM X.K (mCall F mNil)) :=
  PE.imp (pe_call0 G hr hg hm hk hb .nil pass0 hdb) fun σ H Q h => by
    have := sp_call (E := E0) h
    obtain ⟨env, S, m, w, S', er, rl, he, k⟩ := this
    cases he
    exact k H m [] rl .refl rfl
/-- positional and keyword values in the parameters' order -/
def kg {α : Type} (a b : Nat) (is : List Nat) (us ws : List α) : List α := if us.length = a ∧ ws.length = b then is.filterMap fun i => (us ++ ws)[i]? else []
def mCallK (F : List W → Sto → Option (W × Sto)) (is : List Nat) (a b : Nat) (ga gk : MA) : ME := fun env S => (ga env S).bind fun p => (gk env p.2).bind fun q => F (kg a b is p.1 q.1) q.2
theorem WRs.append {K : PySem.W.Frag} {H : Hp} {m : Mp} : ∀ {ws us : List W} {xs ys : List V}, WRs K H m ws xs → WRs K H m us ys → WRs K H m (ws ++ us) (xs ++ ys)
  | [], _, _, _, h, k => by unfold WRs at h; subst h; exact k
  | w :: ws, _, _, _, h, k => by
    obtain ⟨v, vs', rfl, h1, h2⟩ := h
    exact ⟨v, _, rfl, h1, WRs.append h2 k⟩
theorem WRs.none_of {K : PySem.W.Frag} {H : Hp} {m : Mp} {ws : List W} {vs : List V} {i : Nat} (r : WRs K H m ws vs) (e : ws[i]? = none) : vs[i]? = none := by
  have h1 := WRs.length r
  have h2 : ws.length ≤ i := List.getElem?_eq_none_iff.mp e
  exact List.getElem?_eq_none_iff.mpr (by omega)
theorem WRs.pick {K : PySem.W.Frag} {H : Hp} {m : Mp} {ws : List W} {vs : List V} (r : WRs K H m ws vs) : ∀ is : List Nat, WRs K H m (is.filterMap fun i => ws[i]?) (is.filterMap fun i => vs[i]?)
  | [] => rfl
  | i :: is => by
    cases q : ws[i]? with
    | none =>
      rw [List.filterMap_cons_none q, List.filterMap_cons_none (r.none_of q)]
      exact WRs.pick r is
    | some w =>
      obtain ⟨v, e1, r1⟩ := r.get q
      rw [List.filterMap_cons_some q, List.filterMap_cons_some e1]
      exact ⟨v, _, rfl, r1, WRs.pick r is⟩
theorem WRs.kg {K : PySem.W.Frag} {H : Hp} {m : Mp} {us zs : List W} {vs ys : List V} {a b : Nat} {is : List Nat} (r : WRs K H m us vs) (r' : WRs K H m zs ys) : WRs K H m (MW.kg a b is us zs) (MW.kg a b is vs ys) := by
  unfold MW.kg
  rw [WRs.length r, WRs.length r']
  split
  · exact (r.append r').pick is
  · rfl
theorem Vals.pick {ws : List V} {vs : List Value} (r : Vals ws vs) : ∀ is : List Nat, Vals (is.filterMap fun i => ws[i]?) (is.filterMap fun i => vs[i]?)
  | [] => .nil
  | i :: is => by
    cases q : ws[i]? with
    | none =>
      rw [List.filterMap_cons_none q, List.filterMap_cons_none (r.none_of q)]
      exact Vals.pick r is
    | some w =>
      obtain ⟨v, e1, r1⟩ := r.get q
      rw [List.filterMap_cons_some q, List.filterMap_cons_some e1]
      exact .cons r1 (Vals.pick r is)
theorem kbinds {K : PySem.W.Frag} {xn qual : Str} {st : Stmt} {a b : Nat} {is : List Nat} (F : Fun K xn qual st f fd) (hps : 0 < ps.length)
    (h : ∀ (kV doc pm : Value) (an : Option Addr) (cdv ct : Value) (us ws : List Value), us.length = a → ws.length = b → bindArgs (PySem.W.fnOf xn qual (defArgs st) (defBody st) (defScope st) .none kV doc pm an cdv ct) ⟨us, ks.zip ws⟩ = pure (ps.zip (kg a b is us ws))) :
    KBinds K fd ps ks (kg a b is) (kg a b is) := by
  obtain ⟨oc, od, kV, doc, pm, an, cdv, ct, osl, rfl, lk, hcd⟩ := F.ex
  refine ⟨fun s us ws _ hl => ?_, fun {vs us zs ws} r r' => ?_⟩
  · by_cases c : us.length = a ∧ ws.length = b
    · exact .of_eq (h kV doc pm an cdv ct us ws c.1 c.2)
    · unfold kg at hl
      rw [if_neg c] at hl
      rw [← hl] at hps
      exact absurd hps (Nat.lt_irrefl _)
  · unfold kg
    rw [r.length, r'.length]
    split
    · exact Vals.pick (r.append r') is
    · exact .nil
/-- the keywords' values -/
theorem mk_nil : PK X [] (tMA X.K mNil) := ⟨fun pos pins s σ H Q I q => pk_nil.run pos pins s σ H Q I (by
  obtain ⟨env, S, m, w, S', er, rl, he, k⟩ := q
  cases he
  exact k H m [] rl .refl rfl)⟩
theorem mk_cons {nm : Option Str} {kpos : Pos} {fa : ME} (ha : PE X e (tM X.K fa)) (hr : PK X kws (tMA X.K ga)) : PK X (⟨nm, e, kpos⟩ :: kws) (tMA X.K (mCons fa ga)) := ⟨fun pos pins s σ H Q I q => (pk_cons ha hr).run pos pins s σ H Q I (by
  obtain ⟨env, S, m, w, S', er, rl, he, k⟩ := q
  unfold mCons at he
  obtain ⟨⟨p, S1⟩, h1, he⟩ := bind_some he
  obtain ⟨⟨q, S2⟩, h2, he⟩ := bind_some he
  cases he
  refine ⟨env, S, m, p, S1, er, rl, h1, fun H1 m1 x rl1 g1 r1 => ⟨env, S1, m1, q, _, er.gr g1, rl1, h2, fun H2 m2 xs rl2 g2 r2 => ?_⟩⟩
  exact k H2 m2 (x :: xs) rl2 (g1.trans g2) ⟨x, xs, rfl, r1.gr g2, r2⟩)⟩
theorem sp_callK {a b : Nat} {is : List Nat} {σ : St} {H : Hp} {Q : VK} {E : XK} (h : tM X.K (mCallK F is a b ga gk) σ H Q) : tCallK (spM X.K F) (kg a b is) E (tMA X.K ga) (tMA X.K gk) σ H Q := by
  obtain ⟨env, S, m, w, S', er, rl, he, k⟩ := h
  unfold mCallK at he
  obtain ⟨⟨ws, S1⟩, h1, he⟩ := bind_some he
  obtain ⟨⟨zs, S2⟩, h2, he⟩ := bind_some he
  refine ⟨env, S, m, ws, S1, er, rl, h1, fun H1 m1 vs rl1 g1 r1 => ⟨env, S1, m1, zs, S2, er.gr g1, rl1, h2, fun H2 m2 ys rl2 g2 r2 => ?_⟩⟩
  exact ⟨_, S2, m2, w, S', (r1.gr g2).kg r2, rl2, he, fun H' m' v rl' g' => k H' m' v rl' ((g1.trans g2).trans g')⟩
theorem me_callK {a b : Nat} {is : List Nat} (G : FnOk X.prog X.w X.K X.mg X.base CX0 k f fd ps (spM X.K F)) (hr : Room k X.A) (hg : Gl X x) (hm : X.mg x = some (.ref f)) (hk : PySem.W.keepIn X.K (.ref f) = true) (hb : KBinds X.K fd ps ks (kg a b is) (kg a b is))
    (ha : PA X (e :: es) (tMA X.K ga)) (hkw : PK X kws (tMA X.K gk)) (hall : (backToKw pos (keywordEach kws X.env)).all (·.1.isSome) = true := by rfl) (hks : (backToKw pos (keywordEach kws X.env)).filterMap (·.1) = ks := by rfl)
    (hdb : (x == ("__debug__" : Str)) = false := by decide) (he : starEach (e :: es) X.env = (false, eval e X.env) :: starEach es X.env := by rfl)
    (hpl : ((backTo pos (starEach (e :: es) X.env)).any (·.1) || (backToKw pos (keywordEach kws X.env)).any (·.1.isNone)) = false := by rfl) :
    PE X (.Call (.Name x p) (e :: es) kws pos) (tM X.K (mCallK F is a b ga gk)) :=
  PE.imp (pe_callK G hr hg hm hk hb pass0 ha hkw hall hks hdb he hpl) fun σ H Q h => sp_callK h
theorem me_callK0 {b : Nat} {is : List Nat} (G : FnOk X.prog X.w X.K X.mg X.base CX0 k f fd ps (spM X.K F)) (hr : Room k X.A) (hg : Gl X x) (hm : X.mg x = some (.ref f)) (hk : PySem.W.keepIn X.K (.ref f) = true) (hb : KBinds X.K fd ps ks (kg 0 b is) (kg 0 b is))
    (hkw : PK X kws (tMA X.K gk)) (hall : (backToKw pos (keywordEach kws X.env)).all (·.1.isSome) = true := by rfl) (hks : (backToKw pos (keywordEach kws X.env)).filterMap (·.1) = ks := by rfl)
    (hdb : (x == ("__debug__" : Str)) = false := by decide)
    (hpl : ((backTo pos (starEach [] X.env)).any (·.1) || (backToKw pos (keywordEach kws X.env)).any (·.1.isNone)) = false := by rfl) :
    PE X (.Call (.Name x p) [] kws pos) (tM X.K (mCallK F is 0 b mNil gk)) := by
  refine ⟨fun pins s σ H Q I h => ?_⟩
  obtain ⟨env, S, m, w, S', er, rl, he, k⟩ := h
  unfold mCallK at he
  obtain ⟨⟨ws, S1⟩, h1, he⟩ := bind_some he
  cases h1
  obtain ⟨⟨zs, S2⟩, h2, he⟩ := bind_some he
  refine wpAny_Call_Name_kw (ld_glob I hg hm ?_ hdb)
  refine PySem.W.callWith_KW0 (h₀ := X.base) I.ok.mod.kin hk hall (thn (hkw.run pos pins s σ H (fun ys H2 => spM X.K F (kg 0 b is [] ys) H2 Q E0) I ⟨env, S, m, zs, S2, er, rl, h2, fun H2 m2 ys rl2 g2 r2 => ?_⟩) fun ws s2 ⟨ys, H2, I2, rz, q2⟩ => ⟨I2.kIn, ?_⟩) hpl
  · exact ⟨_, S2, m2, w, S', WRs.kg (us := []) (vs := []) rfl r2, rl2, he, fun H' m' v rl' g' => k H' m' v rl' (g2.trans g')⟩
  · rw [hks]
    exact run_fnk (us := []) (vs := []) G hr hb pass0 I2 .nil rz q2
end
/-- the law itself: whatever the script is -/
theorem law_sp {K : PySem.W.Frag} {F : List W → Sto → Option (W × Sto)} (h1 : ∀ ns : List Int, ns.length ≤ 63 → ∃ S, F [.scr ns] [] = some (.d (.bl true), S)) (H : Hp) (a : Addr) (ns : List Int) (hl : ns.length ≤ 63) (hO : Only H) (hS : SqL K H a (ns.map V.int)) :
    spM K F [.ref a] H (fun v _ => v = .bl true) fun _ _ _ => False := by
  obtain ⟨S, e⟩ := h1 ns hl
  refine ⟨[.scr ns], [], ⟨[], fun _ => False⟩, _, S, ⟨_, [], rfl, ⟨a, rfl, ?_⟩, rfl⟩, ⟨rfl, fun i j a h => (by simp at h), fun n o a h => (by simp at h), fun a h => (nomatch h), fun a h => h.elim⟩, e, fun H' m' v rl g r => ?_⟩
  · rcases hS with (h | ⟨o, h⟩) | h
    · rcases hO a with z | ⟨o, xs, z⟩
      · rw [z] at h; cases h
      · rw [z] at h; cases h
    · exact .inl ⟨o, h⟩
    · exact .inr h
  · unfold WR DR at r
    exact r
end MW
end
section
set_option maxRecDepth 100000
/-! MW, part h: short words for the printed terms. -/
namespace MW
open PySem PySem.Spec L2
section
variable {X : Cx} {e : Expr}
/-! ### comprehensions -/
def tYesM : MB := fun _ S => some (true, S)
theorem mts_nil : PTs X [] (tMB X.K tYesM) := ⟨fun pins s σ H Q I h => by
  obtain ⟨env, S, m, w, S', er, rl, he, k⟩ := h
  cases he
  exact pts_nil.run pins s σ H Q I (k H m rl .refl)⟩
theorem me_lc (mk : Mk) (t : CT) {elt tg iter : Expr} {ifs : List Expr} {scope : Scope} {own : List (Str × Nat)} {pos : Pos} {fi : MI} {c : MB} {f : ME} (hc : X.calm = true) (hN : X.N.Nodup) (hi : PI X tg iter (tMI X.K fi)) (ok : BlkOk X.N X.env.scope scope own)
    (hg : ∀ (s : Shared) (H : Hp) (C : Addr) (cl : List (Str × Addr)) (fp : List Addr), PG (X.blk s H scope (PySem.compEnvC scope cl C X.env) fp) tg (cT X.K t)) (ht : ∀ (s : Shared) (H : Hp) (C : Addr) (cl : List (Str × Addr)) (fp : List Addr), PTs (X.blk s H scope (PySem.compEnvC scope cl C X.env) fp) ifs (tMB X.K c))
    (he : ∀ (s : Shared) (H : Hp) (C : Addr) (cl : List (Str × Addr)) (fp : List Addr), PE (X.blk s H scope (PySem.compEnvC scope cl C X.env) fp) elt (tM X.K f)) (hs : ∀ x, foldedSetIterable iter X.env x = pure x := by intro _; rfl) :
    PE X (.ListComp elt [⟨tg, iter, ifs, 0⟩] scope pos) (tM X.K (mLc mk fi t c f (own.map (·.2)))) := PE.imp (pe_lc hc hN hi ok hg ht he hs) fun σ H Q h => lc_of h
theorem ms_setLc (mk : Mk) (t : CT) {i : Nat} {y : Str} {py : Pos} {elt tg iter : Expr} {ifs : List Expr} {scope : Scope} {own : List (Str × Nat)} {pos spos : Pos} {fi : MI} {c : MB} {f : ME} (hc : X.calm = true) (hN : X.N.Nodup) (hy : X.N[i]? = some y) (hyl : X.env.scope.names.lookup y = some .local)
    (hsw : swapsWith (.ListComp elt [⟨tg, iter, ifs, 0⟩] scope pos) (some (.Name y py)) spos.line X.env = pure true) (hi : PI X tg iter (tMI X.K fi)) (ok : BlkOk X.N X.env.scope scope own)
    (hg : ∀ (s : Shared) (H : Hp) (C : Addr) (cl : List (Str × Addr)) (fp : List Addr), PG (X.blk s H scope (PySem.compEnvC scope cl C X.env) fp) tg (cT X.K t)) (ht : ∀ (s : Shared) (H : Hp) (C : Addr) (cl : List (Str × Addr)) (fp : List Addr), PTs (X.blk s H scope (PySem.compEnvC scope cl C X.env) fp) ifs (tMB X.K c))
    (he : ∀ (s : Shared) (H : Hp) (C : Addr) (cl : List (Str × Addr)) (fp : List Addr), PE (X.blk s H scope (PySem.compEnvC scope cl C X.env) fp) elt (tM X.K f)) (hs : ∀ x, foldedSetIterable iter X.env x = pure x := by intro _; rfl) :
    PS X (.Assign [.Name y py] (.ListComp elt [⟨tg, iter, ifs, 0⟩] scope pos) spos) (tMS X.K (sAsg (mLc mk fi t c f (own.map (·.2))) (mgName i))) :=
  PS.imp (ps_setLc hc hN hy hyl hsw hi ok hg ht he hs) (tAsg_of (fun _ _ _ h => lc_of h) fun v σ H Q h => by
    obtain ⟨env, S, m, w, env', S', er, rl, r, he, k⟩ := h
    cases he
    exact k _ H m (er.set r) rl .refl)
/-- a value that is True or False by its truth: numbers, texts, lists, tuples -/
def W.tru (S : Sto) (w : W) : Option Bool := match w with
  | .d .non => some false
  | .d (.bl b) => some b
  | .d (.int i) => some (i != 0)
  | .d (.str s) => if s.length ≤ sizeLine then some ((s.length : Int) != 0) else none
  | w => (W.seq S w).bind fun xs => some (!xs.isEmpty)
def mTru (f : ME) : MB := fun env S => (f env S).bind fun p => (W.tru p.2 p.1).bind fun b => some (b, p.2)
/-! ### names -/
theorem mv (i : Nat) {x : Str} {pos : Pos} (hN : X.N[i]? = some x := by rfl) (hv : Vis X.env.scope x := by first | exact Or.inl rfl | exact Or.inr (Or.inl rfl) | exact Or.inr (Or.inr rfl)) (hd : (x == ("__debug__" : Str)) = false := by decide)
    (hcd : (x == ("__classdict__" : Str)) = false := by decide) : PE X (.Name x pos) (tM X.K (mVar i)) := me_var (pe_var hN hv hd hcd)
theorem gv (i : Nat) {x : Str} {pos : Pos} (hN : X.N.Nodup) (hi : X.N[i]? = some x := by rfl) (hx : Loc X.env.scope x := by first | exact Or.inl rfl | exact Or.inr rfl) (hf : X.fn x = true ∨ X.env.scope.names.lookup x = some .local := by first | exact .inl rfl | exact .inr rfl) : PG X (.Name x pos) (tMG X.K (mgName i)) :=
  mg_name (pg_name hN hi hx hf)
theorem cv (i : Nat) {x : Str} {pos : Pos} (hN : X.N.Nodup) (hi : X.N[i]? = some x := by rfl) (hx : Loc X.env.scope x := by first | exact Or.inl rfl | exact Or.inr rfl) (hf : X.fn x = true ∨ X.env.scope.names.lookup x = some .local := by first | exact .inl rfl | exact .inr rfl) : PG X (.Name x pos) (gName i) :=
  pg_name hN hi hx hf
/-- x = e -/
theorem ms_set (i : Nat) {x : Str} {pos' pos : Pos} {f : ME} (hN : X.N.Nodup) (he : PE X e (tM X.K f)) (hi : X.N[i]? = some x := by rfl) (hx : Loc X.env.scope x := by first | exact Or.inl rfl | exact Or.inr rfl) (hs : swapsWith e (some (.Name x pos')) pos.line X.env = pure false := by rfl) (hf : X.fn x = true ∨ X.env.scope.names.lookup x = some .local := by first | exact .inl rfl | exact .inr rfl) :
    PS X (.Assign [.Name x pos'] e pos) (tMS X.K (sAsg f (mgName i))) :=
  PS.imp (ps_set hN hi hx he hs hf) (tAsg_of (fun _ _ _ h => h) fun v σ H Q h => by
    obtain ⟨env, S, m, w, env', S', er, rl, r, he, k⟩ := h
    cases he
    exact k _ H m (er.set r) rl .refl)
end
/-! ### what the top has made -/
/-- a def of the text stands at the name x -/
def DefT (K : PySem.W.Frag) (mg : Str → Option Value) (x : Str) (st : Stmt) : Prop := ∃ (f : Addr) (fd : FuncData), mg x = some (.ref f) ∧ Fun K x x st f fd
theorem defT {K : PySem.W.Frag} {h : Heap} {mg : Str → Option Value} {x : Str} {st : Stmt} {f : Addr} {oc : Value} {od an : Option Addr} {osl : Array (Option Value)} {kV doc pm cdv ct : Value} (X : K.In h) (G : h.Ns mainGlobals mg)
    (a : PySem.W.nsIn K mainGlobals x = some (some (.ref f))) (l : K.lookup f = some ⟨oc, od, .func (PySem.W.fnOf x x (defArgs st) (defBody st) (defScope st) .none kV doc pm an cdv ct), osl⟩)
    (c : PySem.W.codeIn K cdv x = true) (k : PySem.W.keepIn K (.ref f) = true) : DefT K mg x st := ⟨f, _, PySem.W.mg_of X G a, fun_mk l c k⟩
section
variable (P : Program) (w : World) (K : PySem.W.Frag) (mg : Str → Option Value) (base : Heap)
/-- .. and keeps the promise of its mirror F -/
def Has (x : Str) (st : Stmt) (ps : List Str) (k : Nat) (F : List W → Sto → Option (W × Sto)) : Prop :=
  ∃ (f : Addr) (fd : FuncData), mg x = some (.ref f) ∧ Fun K x x st f fd ∧ Binds K fd ps [] ∧ FnOk P w K mg base CX0 k f fd ps (spM K F)
end
section
variable {P : Program} {w : World} {K : PySem.W.Frag} {mg : Str → Option Value} {base : Heap} {x : Str} {st : Stmt} {N ps : List Str} {k : Nat} {body : MS}
abbrev BodyOk (P : Program) (w : World) (K : PySem.W.Frag) (mg : Str → Option Value) (base : Heap) (x : Str) (st : Stmt) (N : List Str) (k : Nat) (body : MS) : Prop :=
  ∀ (f : Addr) (cdv : Value) (A : Around) (outer : List PySem.Env) (s : Shared) (H : Hp) (E : XK), Room k (A.deeper (PyProof.Rows.envOfC x (defScope st) s.heap.objs.size f cdv)) → PSs (cxOf CX0 P w K mg base N x (defScope st) f cdv A outer s H E).nox (defBody st) (tMS K body)
abbrev BindOk (x : Str) (st : Stmt) (ps : List Str) : Prop :=
  ∀ (kV doc pm : Value) (an : Option Addr) (cdv ct : Value) (us : List Value), us.length = ps.length → bindArgs (PySem.W.fnOf x x (defArgs st) (defBody st) (defScope st) .none kV doc pm an cdv ct) ⟨us, []⟩ = pure (ps.zip us)
theorem has_def {keep : Bool} (D : DefT K mg x st) (sc : FnScope N ps (defScope st)) (hbind : BindOk x st ps) (hb : BodyOk P w K mg base x st N k body) : Has P w K mg base x st ps (k + 1) (runDef N.length ps.length keep body) := by
  obtain ⟨f, fd, hm, F⟩ := D
  exact ⟨f, fd, hm, F, F.binds hbind, def_ok F sc fun cdv A outer s H E hr => hb f cdv A outer s H E hr⟩
theorem has_pure (D : DefT K mg x st) (sc : FnScope N ps (defScope st)) (hbind : BindOk x st ps) (hb : BodyOk P w K mg base x st N k body) : Has P w K mg base x st ps (k + 1) (callP (runPure N.length ps.length body)) := by
  obtain ⟨f, fd, hm, F⟩ := D
  exact ⟨f, fd, hm, F, F.binds hbind, def_okP F sc fun cdv A outer s H E hr => hb f cdv A outer s H E hr⟩
end
section
variable {X : Cx} {k : Nat} {ps ks : List Str} {x : Str} {st : Stmt} {p pos : Pos} {e : Expr} {es : List Expr} {kws : List Keyword} {ga gk : MA} {F : List W → Sto → Option (W × Sto)}
theorem mh_call (h : Has X.prog X.w X.K X.mg X.base x st ps k F) (hr : Room k X.A) (hg : Gl X x) 
    (ha : PA X (e :: es) (tMA X.K ga)) (hdb : (x == ("__debug__" : Str)) = false := by decide) (he : starEach (e :: es) X.env = (false, eval e X.env) :: starEach es X.env := by rfl) (hpl : (backTo pos (starEach es X.env)).any (·.1) = false := by rfl) :
    PE X (.Call (.Name x p) (e :: es) [] pos) (tM X.K (mCall F ga)) := by
  obtain ⟨f, fd, hm, Fn, hb, G⟩ := h
  exact me_call G hr hg hm Fn.kp hb ha hdb he hpl
theorem mh_call0 (h : Has X.prog X.w X.K X.mg X.base x st ps k F) (hr : Room k X.A) (hg : Gl X x) (hdb : (x == ("__debug__" : Str)) = false := by decide) : PE X (.Call (.Name x p) [] [] pos) (tM X.K (mCall F mNil)) := by
  obtain ⟨f, fd, hm, Fn, hb, G⟩ := h
  exact me_call0 G hr hg hm Fn.kp hb hdb
abbrev KBindOk (x : Str) (st : Stmt) (ps ks : List Str) (a b : Nat) (is : List Nat) : Prop :=
  ∀ (kV doc pm : Value) (an : Option Addr) (cdv ct : Value) (us ws : List Value), us.length = a → ws.length = b → bindArgs (PySem.W.fnOf x x (defArgs st) (defBody st) (defScope st) .none kV doc pm an cdv ct) ⟨us, ks.zip ws⟩ = pure (ps.zip (kg a b is us ws))
theorem mh_callK {a b : Nat} {is : List Nat} (h : Has X.prog X.w X.K X.mg X.base x st ps k F) (hr : Room k X.A) (hg : Gl X x) (hps : 0 < ps.length) (hb : KBindOk x st ps ks a b is)
    (ha : PA X (e :: es) (tMA X.K ga)) (hkw : PK X kws (tMA X.K gk)) (hall : (backToKw pos (keywordEach kws X.env)).all (·.1.isSome) = true := by rfl) (hks : (backToKw pos (keywordEach kws X.env)).filterMap (·.1) = ks := by rfl)
    (hdb : (x == ("__debug__" : Str)) = false := by decide) (he : starEach (e :: es) X.env = (false, eval e X.env) :: starEach es X.env := by rfl)
    (hpl : ((backTo pos (starEach (e :: es) X.env)).any (·.1) || (backToKw pos (keywordEach kws X.env)).any (·.1.isNone)) = false := by rfl) :
    PE X (.Call (.Name x p) (e :: es) kws pos) (tM X.K (mCallK F is a b ga gk)) := by
  obtain ⟨f, fd, hm, Fn, _, G⟩ := h
  exact me_callK G hr hg hm Fn.kp (kbinds Fn hps hb) ha hkw hall hks hdb he hpl
theorem mh_callK0 {b : Nat} {is : List Nat} (h : Has X.prog X.w X.K X.mg X.base x st ps k F) (hr : Room k X.A) (hg : Gl X x) (hps : 0 < ps.length) (hb : KBindOk x st ps ks 0 b is)
    (hkw : PK X kws (tMA X.K gk)) (hall : (backToKw pos (keywordEach kws X.env)).all (·.1.isSome) = true := by rfl) (hks : (backToKw pos (keywordEach kws X.env)).filterMap (·.1) = ks := by rfl)
    (hdb : (x == ("__debug__" : Str)) = false := by decide)
    (hpl : ((backTo pos (starEach [] X.env)).any (·.1) || (backToKw pos (keywordEach kws X.env)).any (·.1.isNone)) = false := by rfl) :
    PE X (.Call (.Name x p) [] kws pos) (tM X.K (mCallK F is 0 b mNil gk)) := by
  obtain ⟨f, fd, hm, Fn, _, G⟩ := h
  exact me_callK0 G hr hg hm Fn.kp (kbinds Fn hps hb) hkw hall hks hdb hpl
end
/-- the end of a law -/
theorem law_end {l : PySem.W.OpenLaw} {k : Nat} {q : Program} {loose : List Str} {XP : (Str → Option Value) → Heap → Prop} {YP : World → Heap → Prop} {d : DefRec} {K : Params → PySem.W.Frag} {st : Stmt} {F : List W → Sto → Option (W × Sto)}
    (hn : l.most = some 63) (hdf : d.params.defaults = []) (hr : Room k callerA) (hY : ∀ (w : World) (h : Heap), YP w h → (K w.params).In h) (hname : d.name = "law") (hbind : BindOk "law" st ["script"])
    (hF : ∀ (w : World) (mg : Str → Option Value) (h : Heap), (K w.params).In h → h.Ns mainGlobals mg → DefT (K w.params) mg "law" st ∧ ∀ base : Heap, (K w.params).In base → base.Ns mainGlobals mg → Has l.prog w (K w.params) mg base "law" st ["script"] k F)
    (h1 : ∀ ns : List Int, ns.length ≤ 63 → ∃ S, F [.scr ns] [] = some (.d (.bl true), S)) :
    PySem.W.WalkO q loose XP YP l.row.toRowW d [] (fun f vs => PySem.call f vs) := by
  refine walk_of (n := 63) (k := k) (x := "script") (CX := fun _ => CX0) (sp := fun w => spM (K w.params) F) hn (by decide) hdf hr hY (fun w mg fa h KX G hmg => ?_) (fun w H a ns h2 h3 h4 => law_sp h1 H a ns h2 h3 h4) fun _ _ _ _ _ z => z
  obtain ⟨⟨f0, fd0, hm0, F0⟩, hb⟩ := hF w mg h KX G
  rw [hname, hm0] at hmg
  cases hmg
  refine ⟨fd0, fun s u => ?_, fun base h2 h3 => ?_⟩
  · obtain ⟨oc, od, kV, doc, pm, an, cdv, ct, osl, rfl, lk, hcd⟩ := F0.ex
    exact .of_eq (hbind kV doc pm an cdv ct [u] rfl)
  · obtain ⟨f, fd, hm, Fn, _, G'⟩ := hb base h2 h3
    rw [hm0] at hm
    cases hm
    obtain ⟨_, _, _, _, _, _, _, _, _, _, lk, _⟩ := F0.ex
    obtain ⟨_, _, _, _, _, _, _, _, _, _, lk', _⟩ := Fn.ex
    rw [lk] at lk'
    cases lk'
    exact G'
end MW
end
section
set_option maxRecDepth 100000
/-! MW, part i: what the printed terms use besides. -/
namespace MW
open PySem PySem.Spec L2
theorem bb_len : bootBuiltins "len" = some (.builtin "len") := by decide +kernel
theorem bb_abs : bootBuiltins "abs" = some (.builtin "abs") := by decide +kernel
theorem bb_sum : bootBuiltins "sum" = some (.builtin "sum") := by decide +kernel
theorem bb_all : bootBuiltins "all" = some (.builtin "all") := by decide +kernel
theorem bb_any : bootBuiltins "any" = some (.builtin "any") := by decide +kernel
theorem bb_max : bootBuiltins "max" = some (.builtin "max") := by decide +kernel
theorem bb_min : bootBuiltins "min" = some (.builtin "min") := by decide +kernel
theorem bb_sorted : bootBuiltins "sorted" = some (.builtin "sorted") := by decide +kernel
theorem bb_isinstance : bootBuiltins "isinstance" = some (.builtin "isinstance") := by decide +kernel
theorem bb_int : bootBuiltins "int" = some (.type "int") := by decide +kernel
theorem bb_bool : bootBuiltins "bool" = some (.type "bool") := by decide +kernel
theorem bb_str : bootBuiltins "str" = some (.type "str") := by decide +kernel
theorem bb_list : bootBuiltins "list" = some (.type "list") := by decide +kernel
theorem bb_tuple : bootBuiltins "tuple" = some (.type "tuple") := by decide +kernel
theorem bb_dict : bootBuiltins "dict" = some (.type "dict") := by decide +kernel
theorem bb_set : bootBuiltins "set" = some (.type "set") := by decide +kernel
theorem ki_int : kitOk "int" = true := by decide +kernel
theorem ki_bool : kitOk "bool" = true := by decide +kernel
theorem ki_str : kitOk "str" = true := by decide +kernel
theorem ki_list : kitOk "list" = true := by decide +kernel
theorem ki_tuple : kitOk "tuple" = true := by decide +kernel
theorem ki_dict : kitOk "dict" = true := by decide +kernel
section
variable {X : Cx} {tg e : Expr} {f : ME}
/-- a list or a tuple that is walked -/
theorem PI.or {t t' : TI} (h : PI X tg e t) (h' : PI X tg e t') : PI X tg e (fun σ H R => t σ H R ∨ t' σ H R) := ⟨fun pins s σ H R I q => by
  rcases q with q | q
  · exact h.run pins s σ H R I q
  · exact h'.run pins s σ H R I q⟩
def miSeq (f : ME) : MI := fun env S => (f env S).bind fun p => match W.tup p.1 with
  | some xs => some (⟨xs, none⟩, p.2)
  | none => (wkL p.2 p.1).bind fun k => some (k, p.2)
theorem mi_seq (h : PE X e (tM X.K f)) : PI X tg e (tMI X.K (miSeq f)) := PI.imp (PI.or (mi_list h) (mi_tup h)) fun σ H R ⟨env, S, m, w, S', er, rl, he, k⟩ => by
  unfold miSeq at he
  obtain ⟨⟨w1, S1⟩, h1, he⟩ := bind_some he
  split at he
  · rename_i xs h2
    cases he
    refine .inr ⟨env, S, m, _, _, er, rl, ?_, k⟩
    unfold miTup
    rw [h1]
    show (W.tup w1).bind _ = _
    rw [h2]
    rfl
  · obtain ⟨kk, h2, he⟩ := bind_some he
    cases he
    refine .inl ⟨env, S, m, _, _, er, rl, ?_, k⟩
    unfold miList
    rw [h1]
    show (wkL S1 w1).bind _ = _
    rw [h2]
    rfl
def gRev (mk : Mk) : W → Sto → Option (W × Sto) := fun x S => (W.list S x).bind fun xs => some (newL mk xs.reverse S)
theorem DRs.rev {K : PySem.W.Frag} {H : Hp} {m : Mp} : ∀ {xs : List D} {vs : List V}, DRs K H m xs vs → DRs K H m xs.reverse vs.reverse
  | [], vs, h => by unfold DRs at h; subst h; exact DRs.nil
  | x :: xs, vs, h => by
    unfold DRs at h
    obtain ⟨v, vs', rfl, h1, h2⟩ := h
    rw [List.reverse_cons, List.reverse_cons]
    exact (DRs.rev h2).append (DRs.one h1)
theorem me_rev (mk : Mk) {k : Nat} {p1 p2 p3 pos : Pos} (he : PE X e (tM X.K f)) : PE X (.Subscript e (.Slice none none (some (.UnaryOp .USub (.Constant (.int 1) k p1) p2)) p3) pos) (tM X.K (mUn (gRev mk) f)) :=
  PE.imp (pe_revL he) fun σ H Q ⟨env, S, m, w, S', er, rl, he, k⟩ => by
    unfold mUn at he
    obtain ⟨⟨p, S1⟩, h1, he⟩ := bind_some he
    refine ⟨env, S, m, p, S1, er, rl, h1, fun H1 m1 x rl1 g1 r1 => ?_⟩
    unfold gRev at he
    obtain ⟨xs, h2, he⟩ := bind_some he
    obtain ⟨a, vs, rfl, h3, h4⟩ := W.list_ok h2 rl1 r1
    exact ⟨a, vs, rfl, h3, newL_ok (Option.some.inj he) rl1 h4.rev fun H' m' v rl' g' => k H' m' v rl' (g1.trans g')⟩
/-! ### the module's constants -/
def Gc (K : PySem.W.Frag) (mg : Str → Option Value) (x : Str) (z : D) : Prop := ∃ (u : Value) (v : V), mg x = some u ∧ RelV v u ∧ ∀ H m, DR K H m z v
theorem me_gc {x : Str} {pos : Pos} {z : D} (hg : Gl X x) (h : Gc X.K X.mg x z) (hd : (x == ("__debug__" : Str)) = false := by decide) : PE X (.Name x pos) (tM X.K (mC z)) := by
  obtain ⟨u, v, hm, r, q⟩ := h
  exact me_c (pe_glob hg hm r hd) q
end
/-- turns enough for a number that falls -/
def fuelAbs (i : Nat) : Env → Sto → Nat := fun env _ => match env[i]? with
  | some (some (.d (.int y))) => y.natAbs + 1
  | _ => 0
/-- a def that is never asked at this depth -/
theorem has_none {P : Program} {w : World} {K : PySem.W.Frag} {mg : Str → Option Value} {base : Heap} {x : Str} {st : Stmt} {ps : List Str} {k : Nat} (D : DefT K mg x st) (hbind : BindOk x st ps) : Has P w K mg base x st ps k (fun _ _ => none) := by
  obtain ⟨f, fd, hm, F⟩ := D
  refine ⟨f, fd, hm, F, F.binds hbind, ⟨fun vs H Q E h => ?_, fun A outer s H args us vs Q E hr h1 h2 h3 h => ?_⟩⟩
  · obtain ⟨_, _, _, _, _, _, _, e, _⟩ := h
    cases e
  · obtain ⟨_, _, _, _, _, _, _, e, _⟩ := h
    cases e
end MW
end
section
set_option maxRecDepth 100000
/-! MW, part j: how the own machine runs, for simp. -/
namespace MW
open PySem L2
section
variable {env : Env} {S : Sto} {w z : W} {i j : Int} {mk : Mk}
@[simp] theorem mC_run (x : D) : mC x env S = some (.d x, S) := (rfl : _ = _).trans rfl
@[simp] theorem mNil_run : mNil env S = some ([], S) := (rfl : _ = _).trans rfl
@[simp] theorem mBin_run (g fa fb) : mBin g fa fb env S = (fa env S).bind fun p => (fb env p.2).bind fun q => g p.1 q.1 q.2 := (rfl : _ = _).trans rfl
@[simp] theorem mUn_run (g fa) : mUn g fa env S = (fa env S).bind fun p => g p.1 p.2 := (rfl : _ = _).trans rfl
@[simp] theorem mCons_run (f g) : mCons f g env S = (f env S).bind fun p => (g env p.2).bind fun q => some (p.1 :: q.1, q.2) := (rfl : _ = _).trans rfl
@[simp] theorem mCall_run (g ga) : mCall g ga env S = (ga env S).bind fun p => g p.1 p.2 := (rfl : _ = _).trans rfl
@[simp] theorem mTest_run (f) : mTest f env S = (f env S).bind fun p => match p.1 with
  | .d (.bl b) => some (b, p.2)
  | _ => none := (rfl : _ = _).trans rfl
@[simp] theorem mAnd_run (f g) : mAnd f g env S = (f env S).bind fun p => if p.1 = true then g env p.2 else some (false, p.2) := (rfl : _ = _).trans rfl
@[simp] theorem mOr_run (f g) : mOr f g env S = (f env S).bind fun p => if p.1 = true then some (true, p.2) else g env p.2 := (rfl : _ = _).trans rfl
@[simp] theorem mNot_run (f) : mNot f env S = (f env S).bind fun p => some (!p.1, p.2) := (rfl : _ = _).trans rfl
@[simp] theorem mIf_run (t f g) : mIf t f g env S = (t env S).bind fun p => if p.1 = true then f env p.2 else g env p.2 := (rfl : _ = _).trans rfl
@[simp] theorem mAndV_run (f g) : mAndV f g env S = (f env S).bind fun p => match p.1 with
  | .d (.bl true) => g env p.2
  | .d (.bl false) => some (.d (.bl false), p.2)
  | _ => none := (rfl : _ = _).trans rfl
@[simp] theorem mOrV_run (f g) : mOrV f g env S = (f env S).bind fun p => match p.1 with
  | .d (.bl false) => g env p.2
  | .d (.bl true) => some (.d (.bl true), p.2)
  | _ => none := (rfl : _ = _).trans rfl
@[simp] theorem mNotV_run (f) : mNotV f env S = (f env S).bind fun p => match p.1 with
  | .d (.bl b) => some (.d (.bl (!b)), p.2)
  | _ => none := (rfl : _ = _).trans rfl
@[simp] theorem mChain_run (g g' fa fb fc) : mChain g g' fa fb fc env S = (fa env S).bind fun p => (fb env p.2).bind fun q => (g p.1 q.1 q.2).bind fun r => match r.1 with
  | .d (.bl true) => (fc env r.2).bind fun t => g' q.1 t.1 t.2
  | .d (.bl false) => some (.d (.bl false), r.2)
  | _ => none := (rfl : _ = _).trans rfl
@[simp] theorem mTup_run (ga) : mTup ga env S = (ga env S).bind fun p => (give p.1 p.2).bind fun q => if q.1.length ≤ sizeLine then some (.d (.tup q.1), q.2) else none := (rfl : _ = _).trans rfl
@[simp] theorem mList_run (ga) : mList mk ga env S = (ga env S).bind fun p => (give p.1 p.2).bind fun q => if q.1.length ≤ sizeLine then some (newL mk q.1 q.2) else none := (rfl : _ = _).trans rfl
@[simp] theorem mMeth_run (T g fo ga) : mMeth T g fo ga env S = (fo env S).bind fun p => if W.ty p.2 p.1 = some T then (ga env p.2).bind fun q => g p.1 q.1 q.2 else none := (rfl : _ = _).trans rfl
@[simp] theorem mCallK_run (F is a b ga gk) : mCallK F is a b ga gk env S = (ga env S).bind fun p => (gk env p.2).bind fun q => F (kg a b is p.1 q.1) q.2 := (rfl : _ = _).trans rfl
@[simp] theorem mSl_run (f fl fh) : mSl mk f fl fh env S = (f env S).bind fun p => (fl env p.2).bind fun q => (fh env q.2).bind fun r => gSl mk p.1 q.1 r.1 r.2 := (rfl : _ = _).trans rfl
@[simp] theorem mNo_run : mNo env S = some (none, S) := (rfl : _ = _).trans rfl
@[simp] theorem mSo_run (f) : mSo f env S = (f env S).bind fun p => match p.1 with
  | .d (.int i) => some (some i, p.2)
  | _ => none := (rfl : _ = _).trans rfl
@[simp] theorem tYesM_run : tYesM env S = some (true, S) := (rfl : _ = _).trans rfl
@[simp] theorem sNil_run : sNil env S = some (.nx env S) := (rfl : _ = _).trans rfl
@[simp] theorem sNo_run : sNo env S = none := (rfl : _ = _).trans rfl
@[simp] theorem sBk_run : sBk env S = some (.bk env S) := (rfl : _ = _).trans rfl
@[simp] theorem sCt_run : sCt env S = some (.ct env S) := (rfl : _ = _).trans rfl
@[simp] theorem sSeq_run (f g) : sSeq f g env S = (f env S).bind fun r => match r with
  | .nx e S1 => g e S1
  | r => some r := (rfl : _ = _).trans rfl
@[simp] theorem sExpr_run (f) : sExpr f env S = (f env S).bind fun p => some (.nx env p.2) := (rfl : _ = _).trans rfl
@[simp] theorem sRet_run (f) : sRet f env S = (f env S).bind fun p => some (.rt p.1 p.2) := (rfl : _ = _).trans rfl
@[simp] theorem sIf_run (t f g) : sIf t f g env S = (t env S).bind fun p => if p.1 = true then f env p.2 else g env p.2 := (rfl : _ = _).trans rfl
@[simp] theorem sAsg_run (f g) : sAsg f g env S = (f env S).bind fun p => (g p.1 env p.2).bind fun q => some (.nx q.1 q.2) := (rfl : _ = _).trans rfl
@[simp] theorem sPar_run (a b ga) : sPar a b ga env S = (ga env S).bind fun p => match p.1 with
  | [v, w] => some (.nx ((env.set a (some v)).set b (some w)) p.2)
  | _ => none := (rfl : _ = _).trans rfl
@[simp] theorem sPar3_run (a b c ga) : sPar3 a b c ga env S = (ga env S).bind fun p => match p.1 with
  | [v, w, z] => some (.nx (((env.set a (some v)).set b (some w)).set c (some z)) p.2)
  | _ => none := (rfl : _ = _).trans rfl
@[simp] theorem sFor_run (f g b) : sFor f g b env S = (f env S).bind fun p => forM p.1 g b p.1.its env p.2 := (rfl : _ = _).trans rfl
@[simp] theorem mgName_run (n w) : mgName n w env S = some (env.set n (some w), S) := (rfl : _ = _).trans rfl
@[simp] theorem mgTup_run (n g w) : mgTup n g w env S = (W.tup w).bind fun xs => if xs.length = n then g (xs.map W.d) env S else none := (rfl : _ = _).trans rfl
@[simp] theorem mgNil_run : mgNil [] env S = some (env, S) := (rfl : _ = _).trans rfl
@[simp] theorem mgCons_run (f g w r) : mgCons f g (w :: r) env S = (f w env S).bind fun p => g r p.1 p.2 := (rfl : _ = _).trans rfl
@[simp] theorem mgSub_run (fo fi w) : mgSub fo fi w env S = (fo env S).bind fun p => (fi env p.2).bind fun q => match p.1, q.1 with
  | .ref n, .d (.int k) => (match give [w] q.2 with
    | some ([d], S1) => (match S1[n]? with
      | some (.lst xs) => (ixN xs.length k).bind fun j => some (env, S1.set n (.lst (xs.set j d)))
      | _ => none)
    | _ => none)
  | _, _ => none := (rfl : _ = _).trans rfl
@[simp] theorem W.tup_run (xs : List D) : W.tup (.d (.tup xs)) = some xs := (rfl : _ = _).trans rfl
@[simp] theorem mVar0 (w : W) (r : Env) : mVar 0 (some w :: r) S = some (w, S) := (rfl : _ = _).trans rfl
@[simp] theorem mVar_succ (n : Nat) (w : Option W) (r : Env) : mVar (n + 1) (w :: r) S = mVar n r S := by
  unfold mVar; rw [List.getElem?_cons_succ]
/-! operators -/
@[simp] theorem iAdd_run : iAdd i j = some (.int (i + j)) := (rfl : _ = _).trans rfl
@[simp] theorem iSub_run : iSub i j = some (.int (i - j)) := (rfl : _ = _).trans rfl
@[simp] theorem iLt_run : iLt i j = some (.bl (decide (i < j))) := (rfl : _ = _).trans rfl
@[simp] theorem iLe_run : iLe i j = some (.bl (decide (i ≤ j))) := (rfl : _ = _).trans rfl
@[simp] theorem iGt_run : iGt i j = some (.bl (decide (j < i))) := (rfl : _ = _).trans rfl
@[simp] theorem iGe_run : iGe i j = some (.bl (decide (j ≤ i))) := (rfl : _ = _).trans rfl
@[simp] theorem gInt_run (g) : gInt g (.d (.int i)) (.d (.int j)) S = (g i j).bind fun z => some (.d z, S) := (rfl : _ = _).trans rfl
@[simp] theorem gAdd_int : gAdd mk (.d (.int i)) (.d (.int j)) S = some (.d (.int (i + j)), S) := (rfl : _ = _).trans rfl
@[simp] theorem gAdd_tup (xs ys : List D) : gAdd mk (.d (.tup xs)) (.d (.tup ys)) S = if xs.length + ys.length ≤ sizeLine then some (.d (.tup (xs ++ ys)), S) else none := by
  show gOr gAddS (gOr gAddT (gAddL mk)) (.d (.tup xs)) (.d (.tup ys)) S = _
  show gOr gAddT (gAddL mk) (.d (.tup xs)) (.d (.tup ys)) S = _
  unfold gOr gAddT
  simp only [W.tup_run, Option.bind_some]
  split <;> simp_all [gAddL, W.listT]
@[simp] theorem gAdd_lst (xs ys : List D) : gAdd mk (.d (.lst xs)) (.d (.lst ys)) S = if xs.length + ys.length ≤ sizeLine then some (newL mk (xs ++ ys) S) else none := (rfl : _ = _).trans rfl
theorem gMul_int (h : i.natAbs.log2 + j.natAbs.log2 < 1000000) : gMul mk (.d (.int i)) (.d (.int j)) S = some (.d (.int (i * j)), S) := by
  show gOr (gInt iMul) _ _ _ _ = _
  unfold gOr
  simp [iMul, h]
theorem log2_lt {n a : Nat} (h : n < 2 ^ a) (ha : 0 < a) : n.log2 < a := by
  by_cases h0 : n = 0
  · subst h0; simpa using ha
  · exact (Nat.log2_lt h0).mpr h
/-- bounds by powers of two -/
theorem gMul_b {a b : Nat} (hi : i.natAbs < 2 ^ a) (hj : j.natAbs < 2 ^ b) (ha : 0 < a) (hb : 0 < b) (h : a + b ≤ 1000000) : gMul mk (.d (.int i)) (.d (.int j)) S = some (.d (.int (i * j)), S) := gMul_int (by
  have := log2_lt hi ha
  have := log2_lt hj hb
  omega)
theorem iDiv_b {a : Nat} (h : 0 < j) (hj : j.natAbs < 2 ^ a) (ha : 0 < a) (h9 : a ≤ 9000) : iDiv i j = some (.int (i / j)) := by
  unfold iDiv
  rw [if_pos ⟨by omega, Nat.lt_of_lt_of_le (log2_lt hj ha) h9⟩, Int.fdiv_eq_ediv_of_nonneg i (by omega)]
theorem iMod_pos (h : 0 < j) : iMod i j = some (.int (i % j)) := by
  unfold iMod
  rw [if_pos (by omega), Int.fmod_eq_emod_of_nonneg i (by omega)]
theorem iPow_b {n : Nat} (h : n ≤ 1000000) (hi : i.natAbs < 2 ^ 64) : iPow i (n : Int) = some (.int (i ^ n)) := by
  unfold iPow
  rw [if_pos ⟨by omega, by omega, hi⟩, Int.toNat_natCast]
@[simp] theorem gNeg_run : gNeg (.d (.int i)) S = some (.d (.int (-i)), S) := (rfl : _ = _).trans rfl
@[simp] theorem gAbs_run : gAbs [.d (.int i)] S = some (.d (.int i.natAbs), S) := by
  show some (W.d (.int (if i < 0 then -i else i)), S) = _
  congr; split <;> omega
@[simp] theorem gToInt_int : gToInt [.d (.int i)] S = some (.d (.int i), S) := (rfl : _ = _).trans rfl
@[simp] theorem gToInt_bl (b : Bool) : gToInt [.d (.bl b)] S = some (.d (.int (if b = true then 1 else 0)), S) := by cases b <;> rfl
@[simp] theorem gMax2_run : gMax2 [.d (.int i), .d (.int j)] S = some (.d (.int (max i j)), S) := by
  have : (if j > i then j else i) = max i j := by split <;> omega
  show some (W.d (.int (if j > i then j else i)), S) = _
  rw [this]
@[simp] theorem gMin2_run : gMin2 [.d (.int i), .d (.int j)] S = some (.d (.int (min i j)), S) := by
  have : (if j < i then j else i) = min i j := by split <;> omega
  show some (W.d (.int (if j < i then j else i)), S) = _
  rw [this]
@[simp] theorem give_nil : give [] S = some ([], S) := (rfl : _ = _).trans rfl
@[simp] theorem give_d (x : D) (ws : List W) : give (.d x :: ws) S = (give ws S).bind fun p => some (x :: p.1, p.2) := (rfl : _ = _).trans rfl
@[simp] theorem newL_pure (xs : List D) : newL .pure xs S = (.d (.lst xs), S) := (rfl : _ = _).trans rfl
@[simp] theorem newL_own (xs : List D) : newL .own xs S = (.ref S.length, S ++ [.lst xs]) := (rfl : _ = _).trans rfl
@[simp] theorem gIsi_d (T : String) (x : D) : gIsi T (.d x) S = some (.d (.bl (isT (tyD x) T)), S) := (rfl : _ = _).trans rfl
@[simp] theorem gIsi2_d (T T' : String) (x : D) : gIsi2 T T' (.d x) S = some (.d (.bl (isT (tyD x) T || isT (tyD x) T')), S) := (rfl : _ = _).trans rfl
@[simp] theorem gIx_tup (xs : List D) : gIx (.d (.tup xs)) (.d (.int i)) S = (atI xs i).bind fun z => some (.d z, S) := (rfl : _ = _).trans rfl
@[simp] theorem gIx_lst (xs : List D) : gIx (.d (.lst xs)) (.d (.int i)) S = (atI xs i).bind fun z => some (.d z, S) := (rfl : _ = _).trans rfl
theorem gIx_ref {n : Nat} {xs : List D} (h : S[n]? = some (.lst xs)) : gIx (.ref n) (.d (.int i)) S = (atI xs i).bind fun z => some (.d z, S) := by
  show (W.seq S (.ref n)).bind _ = _
  have : W.seq S (.ref n) = some xs := by unfold W.seq W.list; simp [h]
  rw [this]; rfl
@[simp] theorem gLen_tup (xs : List D) : gLen [.d (.tup xs)] S = some (.d (.int xs.length), S) := (rfl : _ = _).trans rfl
@[simp] theorem gLen_lst (xs : List D) : gLen [.d (.lst xs)] S = some (.d (.int xs.length), S) := (rfl : _ = _).trans rfl
theorem gLen_ref {n : Nat} {xs : List D} (h : S[n]? = some (.lst xs)) : gLen [.ref n] S = some (.d (.int xs.length), S) := by
  show (W.seq S (.ref n)).bind _ = _
  have : W.seq S (.ref n) = some xs := by unfold W.seq W.list; simp [h]
  rw [this]; rfl
theorem atI_nat {α : Type} {xs : List α} {k : Nat} : atI xs (k : Int) = xs[k]? := by
  unfold atI ixN
  rw [if_pos (by omega)]
  by_cases h : (k : Int) < xs.length
  · rw [if_pos h]; simp
  · rw [if_neg h]
    have : xs.length ≤ k := by omega
    simp [this]
@[simp] theorem atI_0 {α : Type} {xs : List α} : atI xs 0 = xs[0]? := atI_nat (k := 0)
@[simp] theorem atI_1 {α : Type} {xs : List α} : atI xs 1 = xs[1]? := atI_nat (k := 1)
@[simp] theorem atI_2 {α : Type} {xs : List α} : atI xs 2 = xs[2]? := atI_nat (k := 2)
@[simp] theorem atI_3 {α : Type} {xs : List α} : atI xs 3 = xs[3]? := atI_nat (k := 3)
/-- from behind -/
theorem atI_neg {α : Type} {xs : List α} {k : Nat} (h : 0 < k) (hk : k ≤ xs.length) : atI xs (-(k : Int)) = xs[xs.length - k]? := by
  unfold atI ixN
  rw [if_neg (by omega), if_pos (by omega)]
  have : (-(k : Int) + xs.length).toNat = xs.length - k := by omega
  simp [this]
@[simp] theorem dats_nil : dats S [] = some ([], true) := (rfl : _ = _).trans rfl
@[simp] theorem dats_d (x : D) (ws : List W) : dats S (.d x :: ws) = (dats S ws).bind fun p => some (x :: p.1, p.2) := (rfl : _ = _).trans rfl
theorem callP_d {F : List D → Option D} (xs : List D) : callP F (xs.map W.d) S = (F xs).bind fun x => some (.d x, S) := by
  have : dats S (xs.map W.d) = some (xs, true) := by
    induction xs with
    | nil => rfl
    | cons x xs ih => simp [ih]
  unfold callP
  simp [this]
@[simp] theorem callP_1 {F : List D → Option D} (x : D) : callP F [.d x] S = (F [x]).bind fun x => some (.d x, S) := callP_d [x]
@[simp] theorem callP_2 {F : List D → Option D} (x y : D) : callP F [.d x, .d y] S = (F [x, y]).bind fun x => some (.d x, S) := callP_d [x, y]
@[simp] theorem callP_3 {F : List D → Option D} (x y z : D) : callP F [.d x, .d y, .d z] S = (F [x, y, z]).bind fun x => some (.d x, S) := callP_d [x, y, z]
@[simp] theorem callP_4 {F : List D → Option D} (x y z u : D) : callP F [.d x, .d y, .d z, .d u] S = (F [x, y, z, u]).bind fun x => some (.d x, S) := callP_d [x, y, z, u]
/-! == -/
@[simp] theorem eqv_int : D.eqv (.int i) (.int j) = decide (i = j) := by
  show (i == j) = _
  exact Bool.eq_iff_iff.mpr (by simp)
@[simp] theorem W.py_d (x : D) : W.py S (.d x) = some x := (rfl : _ = _).trans rfl
theorem gEq_d {x y : D} (hx : x.shp = true) (hy : y.shp = true) : gEq (.d x) (.d y) S = some (.d (.bl (x.eqv y)), S) := by simp [gEq, hx, hy]
theorem gNe_d {x y : D} (hx : x.shp = true) (hy : y.shp = true) : gNe (.d x) (.d y) S = some (.d (.bl (!x.eqv y)), S) := by simp [gNe, hx, hy]
@[simp] theorem shp_int : D.shp (.int i) = true := (rfl : _ = _).trans rfl
@[simp] theorem shp_bl (b : Bool) : D.shp (.bl b) = true := (rfl : _ = _).trans rfl
@[simp] theorem shp_non : D.shp .non = true := (rfl : _ = _).trans rfl
@[simp] theorem gEq_int : gEq (.d (.int i)) (.d (.int j)) S = some (.d (.bl (decide (i = j))), S) := by rw [gEq_d rfl rfl, eqv_int]
@[simp] theorem gNe_int : gNe (.d (.int i)) (.d (.int j)) S = some (.d (.bl (!decide (i = j))), S) := by rw [gNe_d rfl rfl, eqv_int]
@[simp] theorem eqv_bl (a b : Bool) : D.eqv (.bl a) (.bl b) = (a == b) := by simp [D.eqv, D.py, PyData.eqv]
@[simp] theorem gEq_bl (a b : Bool) : gEq (.d (.bl a)) (.d (.bl b)) S = some (.d (.bl (a == b)), S) := by rw [gEq_d rfl rfl, eqv_bl]
@[simp] theorem gNe_bl (a b : Bool) : gNe (.d (.bl a)) (.d (.bl b)) S = some (.d (.bl (!(a == b))), S) := by rw [gNe_d rfl rfl, eqv_bl]
end
end MW
end
section
set_option maxRecDepth 100000
/-! MW, part k: fractions as data. -/
namespace MW
open PySem L2
/-- a fraction as the program writes it -/
def fr (r : Rat) : D := .tup [.int r.num, .int r.den]
theorem fr_eq (r : Rat) : fr r = .tup [.int r.num, .int r.den] := rfl
theorem fr_inj {r s : Rat} : fr r = fr s ↔ r = s := by
  constructor
  · intro h
    unfold fr at h
    injection h with h
    injection h with h1 h2
    injection h2 with h2 _
    injection h1 with h1
    injection h2 with h2
    exact Rat.ext h1 (by exact_mod_cast h2)
  · rintro rfl; rfl
/-- its size -/
structure Sz (r : Rat) (n : Nat) : Prop where
  num : r.num.natAbs < 2 ^ n
  den : r.den < 2 ^ n
theorem Sz.mono {r : Rat} {n m : Nat} (h : Sz r n) (hm : n ≤ m) : Sz r m :=
  ⟨Nat.lt_of_lt_of_le h.num (Nat.pow_le_pow_right (by decide) hm), Nat.lt_of_lt_of_le h.den (Nat.pow_le_pow_right (by decide) hm)⟩
theorem pow_lt_mul {x y a b : Nat} (h : x < 2 ^ a) (k : y < 2 ^ b) : x * y < 2 ^ (a + b) := by
  rw [Nat.pow_add]; exact Nat.mul_lt_mul'' h k
theorem sz_divInt {a b : Int} {n : Nat} (hb : b ≠ 0) (h1 : a.natAbs < 2 ^ n) (h2 : b.natAbs < 2 ^ n) : Sz (Rat.divInt a b) n := by
  have hg : 0 < b.gcd a := Int.gcd_pos_of_ne_zero_left a hb
  refine ⟨?_, ?_⟩
  · rw [Rat.num_divInt]
    refine Nat.lt_of_le_of_lt ?_ h1
    have hd : ((b.gcd a : Nat) : Int) ∣ b.sign * a := Int.dvd_trans (Int.gcd_dvd_right b a) (Int.dvd_mul_left _ _)
    rw [Int.natAbs_ediv_of_dvd hd, Int.natAbs_mul, Int.natAbs_sign_of_ne_zero hb, Nat.one_mul]
    exact Nat.div_le_self _ _
  · rw [Rat.den_divInt, if_neg hb]
    exact Nat.lt_of_le_of_lt (Nat.div_le_self _ _) h2
theorem Sz.add {r s : Rat} {n m : Nat} (h : Sz r n) (k : Sz s m) : Sz (r + s) (n + m + 1) := by
  rw [show r + s = Rat.divInt (r.num * s.den + s.num * r.den) (r.den * s.den) by
    rw [Rat.add_def, Rat.normalize_eq_mkRat, ← Rat.divInt_ofNat]; simp]
  have e1 := pow_lt_mul h.num k.den
  have e2 := pow_lt_mul k.num h.den
  have e3 := pow_lt_mul h.den k.den
  refine sz_divInt ?_ ?_ ?_
  · have := r.den_pos; have := s.den_pos
    exact_mod_cast Nat.ne_of_gt (Nat.mul_pos r.den_pos s.den_pos)
  · refine Nat.lt_of_le_of_lt (Int.natAbs_add_le _ _) ?_
    rw [Int.natAbs_mul, Int.natAbs_mul, Int.natAbs_natCast, Int.natAbs_natCast, Nat.pow_succ]
    rw [Nat.add_comm m n] at e2
    omega
  · rw [Int.natAbs_mul, Int.natAbs_natCast, Int.natAbs_natCast, Nat.pow_succ]
    omega
theorem neg_num (r : Rat) : (-r).num = -r.num := rfl
theorem neg_den (r : Rat) : (-r).den = r.den := rfl
theorem Sz.neg {r : Rat} {n : Nat} (h : Sz r n) : Sz (-r) n := ⟨by rw [neg_num, Int.natAbs_neg]; exact h.num, by rw [neg_den]; exact h.den⟩
theorem Sz.sub {r s : Rat} {n m : Nat} (h : Sz r n) (k : Sz s m) : Sz (r - s) (n + m + 1) := by rw [Rat.sub_eq_add_neg]; exact h.add k.neg
theorem mul_divInt (r s : Rat) : r * s = Rat.divInt (r.num * s.num) (r.den * s.den) := by
  rw [Rat.mul_def, Rat.normalize_eq_mkRat, ← Rat.divInt_ofNat]; simp
theorem add_divInt (r s : Rat) : r + s = Rat.divInt (r.num * s.den + s.num * r.den) (r.den * s.den) := by
  rw [Rat.add_def, Rat.normalize_eq_mkRat, ← Rat.divInt_ofNat]; simp
theorem sub_divInt (r s : Rat) : r - s = Rat.divInt (r.num * s.den - s.num * r.den) (r.den * s.den) := by
  rw [Rat.sub_eq_add_neg, add_divInt, neg_num, neg_den]
  congr 1
  rw [Int.neg_mul]; rfl
theorem div_divInt (r s : Rat) : r / s = Rat.divInt (r.num * s.den) (r.den * s.num) := by
  have e : s⁻¹ = Rat.divInt s.den s.num := by
    conv => lhs; rw [← Rat.num_divInt_den s]
    rw [Rat.inv_divInt]
  rw [Rat.div_def, e]
  conv => lhs; rw [← Rat.num_divInt_den r]
  rw [Rat.divInt_mul_divInt]
theorem Sz.mul {r s : Rat} {n m : Nat} (h : Sz r n) (k : Sz s m) : Sz (r * s) (n + m) := by
  rw [mul_divInt]
  refine sz_divInt ?_ ?_ ?_
  · exact_mod_cast Nat.ne_of_gt (Nat.mul_pos r.den_pos s.den_pos)
  · rw [Int.natAbs_mul]; exact pow_lt_mul h.num k.num
  · rw [Int.natAbs_mul, Int.natAbs_natCast, Int.natAbs_natCast]; exact pow_lt_mul h.den k.den
theorem Sz.div {r s : Rat} {n m : Nat} (h : Sz r n) (k : Sz s m) (hs : s ≠ 0) : Sz (r / s) (n + m) := by
  rw [div_divInt]
  have hn : s.num ≠ 0 := fun z => hs (Rat.num_eq_zero.mp z)
  refine sz_divInt ?_ ?_ ?_
  · have h1 : (r.den : Int) ≠ 0 := by exact_mod_cast r.den_nz
    exact Int.mul_ne_zero h1 hn
  · rw [Int.natAbs_mul, Int.natAbs_natCast]; exact pow_lt_mul h.num k.den
  · rw [Int.natAbs_mul, Int.natAbs_natCast]; exact pow_lt_mul h.den k.num
/-- what `reduced` reckons -/
theorem red_num {a b : Int} (hb : b ≠ 0) (g : Int) (hg : g = (Nat.gcd a.natAbs b.natAbs : Int) * (if b > 0 then 1 else -1)) : a.fdiv g = (Rat.divInt a b).num ∧ b.fdiv g = ((Rat.divInt a b).den : Int) ∧ g ≠ 0 ∧ g.natAbs ≤ b.natAbs := by
  have e : Nat.gcd a.natAbs b.natAbs = b.gcd a := by rw [Int.gcd_eq_natAbs_gcd_natAbs, Nat.gcd_comm]
  rw [e] at hg
  have hpos : 0 < b.gcd a := Int.gcd_pos_of_ne_zero_left a hb
  have ha : ((b.gcd a : Nat) : Int) ∣ a := Int.gcd_dvd_right b a
  have hbd : ((b.gcd a : Nat) : Int) ∣ b := Int.gcd_dvd_left b a
  obtain ⟨x, hx⟩ := ha
  obtain ⟨y, hy⟩ := hbd
  have hle : b.gcd a ≤ b.natAbs := Nat.le_of_dvd (by omega) (by rw [Int.gcd_eq_natAbs_gcd_natAbs]; exact Nat.gcd_dvd_left _ _)
  generalize hG : ((b.gcd a : Nat) : Int) = G at *
  have hG0 : G ≠ 0 := by omega
  rw [Rat.num_divInt, Rat.den_divInt, if_neg hb]
  rw [hG]
  have hden : ((b.natAbs / b.gcd a : Nat) : Int) = (b.natAbs : Int) / G := by rw [← hG]; simp
  rw [hden]
  by_cases hp : b > 0
  · rw [if_pos hp, Int.mul_one] at hg
    rw [hg, Int.sign_eq_one_of_pos hp, Int.one_mul]
    refine ⟨?_, ?_, hG0, by omega⟩
    · rw [Int.fdiv_eq_ediv_of_nonneg _ (by omega)]
    · rw [Int.fdiv_eq_ediv_of_nonneg _ (by omega)]
      congr 1; omega
  · rw [if_neg hp] at hg
    have hn : b < 0 := by omega
    rw [hg, Int.sign_eq_neg_one_of_neg hn]
    refine ⟨?_, ?_, by omega, by omega⟩
    · have : a = (G * -1) * (-x) := by grind
      rw [this, Int.mul_fdiv_cancel_left _ (by omega)]
      have : -1 * (G * -1 * -x) = G * (-x) := by grind
      rw [this, Int.mul_ediv_cancel_left _ hG0]
    · have e1 : b = (G * -1) * (-y) := by grind
      have e2 : (b.natAbs : Int) = G * (-y) := by
        have : (b.natAbs : Int) = -b := by omega
        grind
      rw [e2, Int.mul_ediv_cancel_left _ hG0]
      conv => lhs; rw [e1]
      rw [Int.mul_fdiv_cancel_left _ (by omega)]
end MW
end
section
set_option maxRecDepth 100000
/-! MW, part l: loops, comprehensions, the law's box, by plain words. -/
namespace MW
open PySem L2
theorem wk_none (xs : List D) (S : Sto) : Wk.ok ⟨xs, none⟩ S = true := rfl
/-- a comprehension whose parts change nothing -/
theorem lcM_pure {k : Wk} {t : CT} {c : MB} {e : ME} {env : Env} {S : Sto} (hk : k.ok S = true) (p : D → Bool) (f : D → D) : ∀ {xs acc : List D}, (∀ x ∈ xs, ∃ env1, t.set x env = some env1 ∧ c env1 S = some (p x, S) ∧ (p x = true → e env1 S = some (.d (f x), S))) → acc.length + xs.length ≤ sizeLine →
    lcM k t c e env xs acc S = some (acc ++ (xs.filter p).map f, S)
  | [], acc, _, _ => by simp [lcM, hk]
  | x :: xs, acc, h, hz => by
    obtain ⟨env1, h1, h2, h3⟩ := h x List.mem_cons_self
    have hl : acc.length < sizeLine := by simp at hz; omega
    have ih := fun (acc : List D) (hz : acc.length + xs.length ≤ sizeLine) => lcM_pure hk p f (xs := xs) (acc := acc) (fun y hy => h y (List.mem_cons_of_mem _ hy)) hz
    unfold lcM
    rw [if_pos hk, h1]
    simp only [Option.bind_some, h2]
    by_cases hp : p x = true
    · rw [if_pos hp, h3 hp]
      simp only [Option.bind_some, give_d, give_nil]
      rw [if_pos hl, ih _ (by simp at hz ⊢; omega)]
      simp [hp]
    · rw [if_neg hp, ih _ (by simp at hz ⊢; omega)]
      simp [hp]
theorem mLc_pure {mk : Mk} {fi : MI} {t : CT} {c : MB} {e : ME} {vs : List Nat} {env : Env} {S S1 : Sto} {k : Wk} (hin : t.in vs = true) (hi : fi env S = some (k, S1)) (hk : k.ok S1 = true) (p : D → Bool) (f : D → D) (h : ∀ x ∈ k.its, ∃ env1, t.set x (wipeE env vs) = some env1 ∧ c env1 S1 = some (p x, S1) ∧ (p x = true → e env1 S1 = some (.d (f x), S1)))
    (hz : k.its.length ≤ sizeLine) : mLc mk fi t c e vs env S = some (newL mk ((k.its.filter p).map f) S1) := by
  unfold mLc
  rw [if_pos hin, hi]
  simp only [Option.bind_some]
  rw [lcM_pure hk p f h (by simpa using hz)]
  simp
/-- a loop by what holds between two turns, no turn leaves it -/
theorem forM_ok {k : Wk} {g : MG} {b : MS} (I : List D → Env → Sto → Prop) (hk : ∀ r env S, I r env S → k.ok S = true)
    (step : ∀ x r env S, I (x :: r) env S → ∃ env1 S1 e2 S2, g (.d x) env S = some (env1, S1) ∧ b env1 S1 = some (.nx e2 S2) ∧ I r e2 S2) : ∀ (r : List D) (env : Env) (S : Sto), I r env S → ∃ e' S', forM k g b r env S = some (.nx e' S') ∧ I [] e' S'
  | [], env, S, h => ⟨env, S, by simp [forM, hk _ _ _ h], h⟩
  | x :: r, env, S, h => by
    obtain ⟨env1, S1, e2, S2, h1, h2, h3⟩ := step x r env S h
    obtain ⟨e', S', h4, h5⟩ := forM_ok I hk step r e2 S2 h3
    refine ⟨e', S', ?_, h5⟩
    unfold forM
    rw [if_pos (hk _ _ _ h), h1]
    simp only [Option.bind_some, h2]
    exact h4
@[simp] theorem gEq_nil (S : Sto) : gEq (.d (.lst [])) (.d (.lst [])) S = some (.d (.bl true), S) := by
  rw [gEq_d rfl rfl]; rfl
@[simp] theorem gIs_non (x : D) (S : Sto) : gOr gIsN gIsB (.d x) (.d .non) S = some (.d (.bl x.isNon), S) := (rfl : _ = _).trans rfl
@[simp] theorem gIs_bl (a b : Bool) (S : Sto) : gOr gIsN gIsB (.d (.bl a)) (.d (.bl b)) S = some (.d (.bl (decide (a = b))), S) := (rfl : _ = _).trans rfl
@[simp] theorem isNon_non : D.isNon .non = true := (rfl : _ = _).trans rfl
@[simp] theorem isNon_bl (b : Bool) : D.isNon (.bl b) = false := (rfl : _ = _).trans rfl
@[simp] theorem isNon_int (b : Int) : D.isNon (.int b) = false := (rfl : _ = _).trans rfl
@[simp] theorem isNon_tup (b : List D) : D.isNon (.tup b) = false := (rfl : _ = _).trans rfl
@[simp] theorem isNon_lst (b : List D) : D.isNon (.lst b) = false := (rfl : _ = _).trans rfl
/-- data of numbers, truths, lists and tuples, less than n deep -/
def okD : Nat → D → Prop
  | 0, _ => False
  | n + 1, .tup xs => xs.length ≤ 100000 ∧ ∀ x ∈ xs, okD n x
  | n + 1, .lst xs => xs.length ≤ 100000 ∧ ∀ x ∈ xs, okD n x
  | _ + 1, .str _ => False
  | _ + 1, _ => True
theorem miRange1_run {env : Env} {S S1 : Sto} {f : ME} {j : Int} (h : f env S = some (.d (.int j), S1)) (h1 : 0 ≤ j) (h2 : j ≤ 1000000) : miRange1 (mCons f mNil) env S = some (⟨upFrom 0 j.toNat, none⟩, S1) := by
  unfold miRange1
  simp [h]
  omega
theorem upFrom_mem {lo : Int} {n : Nat} {x : D} (h : x ∈ upFrom lo n) : ∃ i : Nat, i < n ∧ x = .int (lo + i) := by
  unfold upFrom at h
  obtain ⟨i, h1, h2⟩ := List.mem_map.mp h
  exact ⟨i, by simpa using h1, h2.symm⟩
@[simp] theorem upFrom_length (lo : Int) (n : Nat) : (upFrom lo n).length = n := by simp [upFrom]
theorem gLen_scr (ns : List Int) (S : Sto) : gLen [.scr ns] S = some (.d (.int ns.length), S) := by
  unfold gLen
  simp [W.seq, W.list]
theorem gIx_scr {ns : List Int} {k : Nat} (h : k < ns.length) (S : Sto) : gIx (.scr ns) (.d (.int k)) S = some (.d (.int ns[k]), S) := by
  unfold gIx
  simp [W.seq, W.list, MW.atI_nat, h]
/-- script[:1] -/
theorem gSl_scr1 (ns : List Int) (S : Sto) : gSl .pure (.scr ns) none (some 1) S = some (.d (.lst ((ns.take 1).map D.int)), S) := by
  have e : cutD (ns.map D.int) none (some 1) = (ns.take 1).map D.int := by
    unfold cutD
    rw [HT.sIx_none]
    have := HT.sIx_nat (ns.map D.int).length (ns.map D.int).length 1
    have h2 : HT.sIx (ns.map D.int).length (ns.map D.int).length (some 1) = min 1 (ns.map D.int).length := this
    rw [h2]
    cases ns with
    | nil => rfl
    | cons a r => simp
  unfold gSl
  simp [W.list, e]
theorem gSum_lst (is : List Int) (S : Sto) : gIs (fun is => some (.int is.sum)) [.d (.lst (is.map D.int))] S = some (.d (.int is.sum), S) := by
  unfold gIs
  simp [W.list, ints_map]
/-- the box of draws at n, at most c of them mixed so far -/
def Bx (S : Sto) (n c : Nat) : Prop := ∃ (b0 : Int) (fl : Bool) (sd c' : Int), S[n]? = some (.lst [.int b0, .bl fl, .int sd, .int c']) ∧ 0 ≤ b0 ∧ 0 ≤ sd ∧ sd < 2147483648 ∧ 0 ≤ c' ∧ c' ≤ c
theorem Bx.mono {S : Sto} {n c d : Nat} (h : Bx S n c) (hc : c ≤ d) : Bx S n d := by
  obtain ⟨b0, fl, sd, c', h1, h2, h3, h4, h5, h6⟩ := h
  exact ⟨b0, fl, sd, c', h1, h2, h3, h4, h5, by omega⟩
theorem Bx.lt {S : Sto} {n c : Nat} (h : Bx S n c) : n < S.length := by
  obtain ⟨b0, fl, sd, c', h1, _⟩ := h
  exact (List.getElem?_eq_some_iff.mp h1).1
@[simp] theorem take_set (S : Sto) (n : Nat) (o : Ob) : (S.set n o).take S.length = S.set n o := List.take_of_length_le (by simp)
@[simp] theorem take_self (S : Sto) : S.take S.length = S := List.take_length
theorem set_set (S : Sto) (n : Nat) (o u : Ob) : (S.set n o).set n u = S.set n u := List.set_set ..
theorem get_set {S : Sto} {n : Nat} {o : Ob} (h : n < S.length) : (S.set n o)[n]? = some o := List.getElem?_set_self h
theorem get_set_ne {S : Sto} {n m : Nat} {o : Ob} (h : n ≠ m) : (S.set n o)[m]? = S[m]? := List.getElem?_set_ne h
/-! two lists of a def's own behind what stood -/
theorem g2a (A : Sto) (a b : Ob) {n : Nat} (h : n = A.length) : (A ++ [a, b])[n]? = some a := by subst h; simp
theorem g2b (A : Sto) (a b : Ob) {n : Nat} (h : n = A.length + 1) : (A ++ [a, b])[n]? = some b := by subst h; simp
theorem s2a (A : Sto) (a b c : Ob) {n : Nat} (h : n = A.length) : (A ++ [a, b]).set n c = A ++ [c, b] := by subst h; simp
theorem s2b (A : Sto) (a b c : Ob) {n : Nat} (h : n = A.length + 1) : (A ++ [a, b]).set n c = A ++ [a, c] := by
  subst h
  rw [List.set_append_right _ _ (by omega)]
  have : A.length + 1 - A.length = 1 := by omega
  rw [this]; rfl
theorem g1 (A : Sto) (a : Ob) {n : Nat} (h : n = A.length) : (A ++ [a])[n]? = some a := by subst h; simp
theorem s1 (A : Sto) (a c : Ob) {n : Nat} (h : n = A.length) : (A ++ [a]).set n c = A ++ [c] := by subst h; simp
theorem set_app (A B : Sto) (c : Ob) {n : Nat} (h : n < A.length) : (A ++ B).set n c = A.set n c ++ B := by rw [List.set_append_left _ _ h]
theorem Bx.app {S T : Sto} {n c : Nat} (h : Bx S n c) : Bx (S ++ T) n c := by
  have hl := h.lt
  obtain ⟨b0, fl, sd, c', h1, h2⟩ := h
  exact ⟨b0, fl, sd, c', by rw [List.getElem?_append_left hl]; exact h1, h2⟩
theorem Bx.of_app {S T : Sto} {n c : Nat} (h : Bx (S ++ T) n c) (hl : n < S.length) : Bx S n c := by
  obtain ⟨b0, fl, sd, c', h1, h2⟩ := h
  exact ⟨b0, fl, sd, c', by rw [List.getElem?_append_left hl] at h1; exact h1, h2⟩
theorem list_app {S T : Sto} {w : W} {xs : List D} (h : W.list S w = some xs) : W.list (S ++ T) w = some xs := by
  cases w with
  | d x => cases x <;> exact h
  | scr ns => exact h
  | ref m =>
    have h' : (match S[m]? with | some (.lst xs) => some xs | _ => none) = some xs := h
    show (match (S ++ T)[m]? with | some (.lst xs) => some xs | _ => none) = some xs
    have hl : m < S.length := by
      cases q : S[m]? with
      | none => rw [q] at h'; cases h'
      | some o => exact (List.getElem?_eq_some_iff.mp q).1
    rw [List.getElem?_append_left hl]
    exact h'
theorem list_ref {S : Sto} {n : Nat} {xs : List D} (h : S[n]? = some (.lst xs)) : W.list S (.ref n) = some xs := by
  show (match S[n]? with | some (.lst xs) => some xs | _ => none) = some xs
  rw [h]
theorem ty_ref {S : Sto} {n : Nat} {xs : List D} (h : S[n]? = some (.lst xs)) : W.ty S (.ref n) = some "list" := by
  show (W.list S (.ref n)).bind _ = _
  rw [list_ref h]; rfl
theorem get_lst {S : Sto} {w : W} {xs : List D} {k : Nat} (h : W.list S w = some xs) (hk : k < xs.length) : gIx w (.d (.int k)) S = some (.d xs[k], S) := by
  have hs : W.seq S w = some xs := by unfold W.seq; rw [h]
  cases w with
  | d x =>
    cases x with
    | lst ys => cases h; simp [MW.atI_nat, hk]
    | _ => cases h
  | scr ns => unfold gIx; simp [hs, MW.atI_nat, hk]
  | ref n => unfold gIx; simp [hs, MW.atI_nat, hk]
theorem get_at {S : Sto} {w : W} {xs : List D} {i : Int} {y : D} (h : W.list S w = some xs) (hk : atI xs i = some y) : gIx w (.d (.int i)) S = some (.d y, S) := by
  have hs : W.seq S w = some xs := by unfold W.seq; rw [h]
  cases w with
  | d x =>
    cases x with
    | lst ys => cases h; simp [hk]
    | _ => cases h
  | scr ns => unfold gIx; simp [hs, hk]
  | ref n => unfold gIx; simp [hs, hk]
theorem len_lst {S : Sto} {w : W} {xs : List D} (h : W.list S w = some xs) : gLen [w] S = some (.d (.int xs.length), S) := by
  have hs : W.seq S w = some xs := by unfold W.seq; rw [h]
  cases w with
  | d x =>
    cases x with
    | lst ys => cases h; simp
    | _ => cases h
  | scr ns => unfold gLen; simp [hs]
  | ref n => unfold gLen; simp [hs]
/-- a list that is not the box -/
theorem list_set {S : Sto} {w : W} {xs : List D} {n : Nat} {o : Ob} (h : W.list S w = some xs) (hn : w ≠ .ref n) : W.list (S.set n o) w = some xs := by
  cases w with
  | d x => cases x <;> exact h
  | scr ns => exact h
  | ref m =>
    have : n ≠ m := fun z => hn (by rw [z])
    have h' : (match S[m]? with | some (.lst xs) => some xs | _ => none) = some xs := h
    show (match (S.set n o)[m]? with | some (.lst xs) => some xs | _ => none) = some xs
    rw [get_set_ne this]
    exact h'
theorem seqIx {k n : Nat} (h : k < n) : seqIndex? (k : Int) n = some k := by
  have := (ixN_seq (n := n) (i := (k : Int)) (j := k) (by unfold ixN; rw [if_pos (by omega), if_pos (by omega)]; simp)).1
  exact this
theorem append_ref {S : Sto} {n : Nat} {xs : List D} {x : D} (h : S[n]? = some (.lst xs)) (hz : xs.length < 16777216) : gAppend (.ref n) [.d x] S = some (.d .non, S.set n (.lst (xs ++ [x]))) := by
  unfold gAppend
  simp [h, sizeLine_eq, hz]
theorem popAt_ref {S : Sto} {n k : Nat} {xs : List D} (h : S[n]? = some (.lst xs)) (hk : k < xs.length) (hz : xs.length < 16777216) : gPopAt (.ref n) [.d (.int k)] S = some (.d xs[k], S.set n (.lst (xs.eraseIdx k))) := by
  unfold gPopAt
  have h1 : (k : Int) < 9223372036854775808 := by omega
  have h2 : (-9223372036854775808 : Int) ≤ k := by omega
  simp [h, seqIx hk, hk, h1, h2]
theorem perm_erase {α : Type} {xs : List α} {k : Nat} (hk : k < xs.length) : xs.Perm (xs[k] :: xs.eraseIdx k) := by
  rw [List.eraseIdx_eq_take_drop_succ]
  have h : xs = xs.take k ++ (xs[k] :: xs.drop (k + 1)) := by
    rw [← List.drop_eq_getElem_cons hk, List.take_append_drop]
  conv => lhs; rw [h]
  exact List.perm_middle
end MW
end
section
set_option maxRecDepth 100000
/-! The mirrors and the walk of each def, printed by gen.py. -/
namespace K01
open PySem PySem.Spec L2 MW
def top (i : Nat) : Stmt := PySem.Challenge.pw_relywide_k01_fractions_of_many_digits.main.body.getD i (.Pass ⟨0, 0, 0, 0⟩)
/-! is_integer -/
abbrev s_is_integer : Stmt := top 5
abbrev nm_is_integer : List Str := ["value"]
theorem sc_is_integer : FnScope ["value"] ["value"] (defScope s_is_integer) := ⟨rfl, rfl, rfl, by decide +kernel, rfl, by decide +kernel, by decide +kernel⟩
def b_is_integer : MS :=
  (sRet (mAndV (mUn (gIsi "int") (mVar 0)) (mNotV (mUn (gIsi "bool") (mVar 0)))))
def m_is_integer : List W → Sto → Option (W × Sto) := callP (runPure 1 1 b_is_integer)
theorem ok_is_integer {P : Program} {w : World} {K : PySem.W.Frag} {mg : Str → Option Value} {base : Heap} (D : DefT K mg "is_integer" s_is_integer) (z_isinstance : mg "isinstance" = none) (z_int : mg "int" = none) (z_bool : mg "bool" = none) : Has P w K mg base "is_integer" s_is_integer ["value"] 1 m_is_integer :=
  has_pure (N := nm_is_integer) (ps := ["value"]) (k := 0) (body := b_is_integer) D sc_is_integer (fun _ _ _ _ _ _ us hl => match us, hl with | [_], _ => rfl) (fun f cdv A outer s H E hr => (mss_one (ms_ret (me_and (me_isi rfl z_isinstance bb_isinstance rfl z_int bb_int ki_int (mv 0)) (me_one (me_not (me_isi rfl z_isinstance bb_isinstance rfl z_bool bb_bool ki_bool (mv 0))))))))
/-! is_tuple -/
abbrev s_is_tuple : Stmt := top 6
abbrev nm_is_tuple : List Str := ["value", "many"]
theorem sc_is_tuple : FnScope ["value", "many"] ["value", "many"] (defScope s_is_tuple) := ⟨rfl, rfl, rfl, by decide +kernel, rfl, by decide +kernel, by decide +kernel⟩
def b_is_tuple : MS :=
  (sRet (mAndV (mUn (gIsi "tuple") (mVar 0)) (mBin (gEq) (mCall gLen (mCons (mVar 0) mNil)) (mVar 1))))
def m_is_tuple : List W → Sto → Option (W × Sto) := callP (runPure 2 2 b_is_tuple)
theorem ok_is_tuple {P : Program} {w : World} {K : PySem.W.Frag} {mg : Str → Option Value} {base : Heap} (D : DefT K mg "is_tuple" s_is_tuple) (z_isinstance : mg "isinstance" = none) (z_tuple : mg "tuple" = none) (z_len : mg "len" = none) : Has P w K mg base "is_tuple" s_is_tuple ["value", "many"] 1 m_is_tuple :=
  has_pure (N := nm_is_tuple) (ps := ["value", "many"]) (k := 0) (body := b_is_tuple) D sc_is_tuple (fun _ _ _ _ _ _ us hl => match us, hl with | [_, _], _ => rfl) (fun f cdv A outer s H E hr => (mss_one (ms_ret (me_and (me_isi rfl z_isinstance bb_isinstance rfl z_tuple bb_tuple ki_tuple (mv 0)) (me_one (me_cmp (om_eq hr) (me_callB cm_len rfl z_len bb_len (ma_cons (mv 0) ma_nil)) (mv 1) (nomark _)))))))
/-! common -/
abbrev s_common : Stmt := top 8
abbrev nm_common : List Str := ["one", "other"]
theorem sc_common : FnScope ["one", "other"] ["one", "other"] (defScope s_common) := ⟨rfl, rfl, rfl, by decide +kernel, rfl, by decide +kernel, by decide +kernel⟩
def b_common : MS :=
  (sSeq (sWhile (fuelAbs 1) (mTest (mBin (gNe) (mVar 1) (mC (.int 0)))) (sPar 0 1 (mCons (mVar 1) (mCons (mBin (gInt iMod) (mVar 0) (mVar 1)) mNil))))
  (sRet (mVar 0)))
def m_common : List W → Sto → Option (W × Sto) := callP (runPure 2 2 b_common)
theorem ok_common {P : Program} {w : World} {K : PySem.W.Frag} {mg : Str → Option Value} {base : Heap} (D : DefT K mg "common" s_common) : Has P w K mg base "common" s_common ["one", "other"] 1 m_common :=
  has_pure (N := nm_common) (ps := ["one", "other"]) (k := 0) (body := b_common) D sc_common (fun _ _ _ _ _ _ us hl => match us, hl with | [_, _], _ => rfl) (fun f cdv A outer s H E hr => (mss_cons (ms_while (fuelAbs 1) PassesOwn.never (mt_cmp (om_ne hr) (mv 1) me_int (nomark _)) (mss_one (ms_par (ps_par (i := 0) (j := 1) rfl sc_common.nd rfl rfl (by decide) rfl rfl (ma_cons (mv 1) (ma_cons (me_bin om_mod (mv 0) (mv 1)) ma_nil)) (by rfl)))))
      (mss_one (ms_ret (mv 0)))))
/-! reduced -/
abbrev s_reduced : Stmt := top 9
abbrev nm_reduced : List Str := ["top", "base", "divisor"]
theorem sc_reduced : FnScope ["top", "base", "divisor"] ["top", "base"] (defScope s_reduced) := ⟨rfl, rfl, rfl, by decide +kernel, rfl, by decide +kernel, by decide +kernel⟩
def b_reduced : MS :=
  (sSeq (sAsg (mBin (gMul .pure) (mCall m_common (mCons (mCall gAbs (mCons (mVar 0) mNil)) (mCons (mCall gAbs (mCons (mVar 1) mNil)) mNil))) (mIf (mTest (mBin (gInt iGt) (mVar 1) (mC (.int 0)))) (mC (.int 1)) (mUn gNeg (mC (.int 1))))) (mgName 2))
  (sRet (mTup (mCons (mBin (gInt iDiv) (mVar 0) (mVar 2)) (mCons (mBin (gInt iDiv) (mVar 1) (mVar 2)) mNil)))))
def m_reduced : List W → Sto → Option (W × Sto) := callP (runPure 3 2 b_reduced)
theorem ok_reduced {P : Program} {w : World} {K : PySem.W.Frag} {mg : Str → Option Value} {base : Heap} (D : DefT K mg "reduced" s_reduced) (h_common : Has P w K mg base "common" s_common ["one", "other"] 1 m_common) (z_abs : mg "abs" = none) : Has P w K mg base "reduced" s_reduced ["top", "base"] 2 m_reduced :=
  has_pure (N := nm_reduced) (ps := ["top", "base"]) (k := 1) (body := b_reduced) D sc_reduced (fun _ _ _ _ _ _ us hl => match us, hl with | [_, _], _ => rfl) (fun f cdv A outer s H E hr => (mss_cons (ms_set 2 sc_reduced.nd (me_bin (om_mul .pure) (mh_call h_common (hr.mono (by decide)) rfl (ma_cons (me_callB cm_abs rfl z_abs bb_abs (ma_cons (mv 0) ma_nil)) (ma_cons (me_callB cm_abs rfl z_abs bb_abs (ma_cons (mv 1) ma_nil)) ma_nil))) (me_if (mt_cmp om_gt (mv 1) me_int (nomark _)) me_int (me_neg me_int))))
      (mss_one (ms_ret (me_tup (ma_cons (me_bin om_div (mv 0) (mv 2)) (ma_cons (me_bin om_div (mv 1) (mv 2)) ma_nil)))))))
/-! is_fraction -/
abbrev s_is_fraction : Stmt := top 10
abbrev nm_is_fraction : List Str := ["value"]
theorem sc_is_fraction : FnScope ["value"] ["value"] (defScope s_is_fraction) := ⟨rfl, rfl, rfl, by decide +kernel, rfl, by decide +kernel, by decide +kernel⟩
def b_is_fraction : MS :=
  (sSeq (sIf (mOr (mNot (mTest (mCall m_is_tuple (mCons (mVar 0) (mCons (mC (.int 2)) mNil))))) (mOr (mNot (mTest (mCall m_is_integer (mCons (mBin gIx (mVar 0) (mC (.int 0))) mNil)))) (mNot (mTest (mCall m_is_integer (mCons (mBin gIx (mVar 0) (mC (.int 1))) mNil)))))) (sRet (mC (.bl false))) sNil)
  (sRet (mAndV (mBin (gInt iGt) (mBin gIx (mVar 0) (mC (.int 1))) (mC (.int 0))) (mBin (gEq) (mCall m_common (mCons (mCall gAbs (mCons (mBin gIx (mVar 0) (mC (.int 0))) mNil)) (mCons (mBin gIx (mVar 0) (mC (.int 1))) mNil))) (mC (.int 1))))))
def m_is_fraction : List W → Sto → Option (W × Sto) := callP (runPure 1 1 b_is_fraction)
theorem ok_is_fraction {P : Program} {w : World} {K : PySem.W.Frag} {mg : Str → Option Value} {base : Heap} (D : DefT K mg "is_fraction" s_is_fraction) (h_is_tuple : Has P w K mg base "is_tuple" s_is_tuple ["value", "many"] 1 m_is_tuple) (h_is_integer : Has P w K mg base "is_integer" s_is_integer ["value"] 1 m_is_integer) (h_common : Has P w K mg base "common" s_common ["one", "other"] 1 m_common) (z_abs : mg "abs" = none) : Has P w K mg base "is_fraction" s_is_fraction ["value"] 2 m_is_fraction :=
  has_pure (N := nm_is_fraction) (ps := ["value"]) (k := 1) (body := b_is_fraction) D sc_is_fraction (fun _ _ _ _ _ _ us hl => match us, hl with | [_], _ => rfl) (fun f cdv A outer s H E hr => (mss_cons (ms_if (PW.pt (mw_or (mt_not (mt_val (mh_call h_is_tuple (hr.mono (by decide)) rfl (ma_cons (mv 0) (ma_cons me_int ma_nil))))) (mw_or (mt_not (mt_val (mh_call h_is_integer (hr.mono (by decide)) rfl (ma_cons (me_ix (mv 0) me_int (fun _ _ => rfl)) ma_nil)))) (mw_or1 (mt_not (mt_val (mh_call h_is_integer (hr.mono (by decide)) rfl (ma_cons (me_ix (mv 0) me_int (fun _ _ => rfl)) ma_nil)))))))) (mss_one (ms_ret me_bl)) mss_nil)
      (mss_one (ms_ret (me_and (me_cmp om_gt (me_ix (mv 0) me_int (fun _ _ => rfl)) me_int (nomark _)) (me_one (me_cmp (om_eq hr) (mh_call h_common (hr.mono (by decide)) rfl (ma_cons (me_callB cm_abs rfl z_abs bb_abs (ma_cons (me_ix (mv 0) me_int (fun _ _ => rfl)) ma_nil)) (ma_cons (me_ix (mv 0) me_int (fun _ _ => rfl)) ma_nil))) me_int (nomark _))))))))
/-! is_chance -/
abbrev s_is_chance : Stmt := top 11
abbrev nm_is_chance : List Str := ["value"]
theorem sc_is_chance : FnScope ["value"] ["value"] (defScope s_is_chance) := ⟨rfl, rfl, rfl, by decide +kernel, rfl, by decide +kernel, by decide +kernel⟩
def b_is_chance : MS :=
  (sRet (mAndV (mCall m_is_fraction (mCons (mVar 0) mNil)) (mChain (gInt iLe) (gInt iLe) (mC (.int 0)) (mBin gIx (mVar 0) (mC (.int 0))) (mBin gIx (mVar 0) (mC (.int 1))))))
def m_is_chance : List W → Sto → Option (W × Sto) := callP (runPure 1 1 b_is_chance)
theorem ok_is_chance {P : Program} {w : World} {K : PySem.W.Frag} {mg : Str → Option Value} {base : Heap} (D : DefT K mg "is_chance" s_is_chance) (h_is_fraction : Has P w K mg base "is_fraction" s_is_fraction ["value"] 2 m_is_fraction) : Has P w K mg base "is_chance" s_is_chance ["value"] 3 m_is_chance :=
  has_pure (N := nm_is_chance) (ps := ["value"]) (k := 2) (body := b_is_chance) D sc_is_chance (fun _ _ _ _ _ _ us hl => match us, hl with | [_], _ => rfl) (fun f cdv A outer s H E hr => (mss_one (ms_ret (me_and (mh_call h_is_fraction (hr.mono (by decide)) rfl (ma_cons (mv 0) ma_nil)) (me_one (me_chain om_le om_le me_int (me_ix (mv 0) me_int (fun _ _ => rfl)) (me_ix (mv 0) me_int (fun _ _ => rfl))))))))
/-! check_fraction -/
abbrev s_check_fraction : Stmt := top 12
abbrev nm_check_fraction : List Str := ["value"]
theorem sc_check_fraction : FnScope ["value"] ["value"] (defScope s_check_fraction) := ⟨rfl, rfl, rfl, by decide +kernel, rfl, by decide +kernel, by decide +kernel⟩
def b_check_fraction : MS :=
  (sIf (mNot (mTest (mCall m_is_fraction (mCons (mVar 0) mNil)))) sNo sNil)
def m_check_fraction : List W → Sto → Option (W × Sto) := callP (runPure 1 1 b_check_fraction)
theorem ok_check_fraction {P : Program} {w : World} {K : PySem.W.Frag} {mg : Str → Option Value} {base : Heap} (D : DefT K mg "check_fraction" s_check_fraction) (h_is_fraction : Has P w K mg base "is_fraction" s_is_fraction ["value"] 2 m_is_fraction) : Has P w K mg base "check_fraction" s_check_fraction ["value"] 3 m_check_fraction :=
  has_pure (N := nm_check_fraction) (ps := ["value"]) (k := 2) (body := b_check_fraction) D sc_check_fraction (fun _ _ _ _ _ _ us hl => match us, hl with | [_], _ => rfl) (fun f cdv A outer s H E hr => (mss_one (ms_if (mt_not (mt_val (mh_call h_is_fraction (hr.mono (by decide)) rfl (ma_cons (mv 0) ma_nil)))) (mss_one ms_never) mss_nil)))
/-! lowest -/
abbrev s_lowest : Stmt := top 13
abbrev nm_lowest : List Str := ["top", "base"]
theorem sc_lowest : FnScope ["top", "base"] ["top", "base"] (defScope s_lowest) := ⟨rfl, rfl, rfl, by decide +kernel, rfl, by decide +kernel, by decide +kernel⟩
def b_lowest : MS :=
  (sSeq (sIf (mNot (mTest (mCall m_is_integer (mCons (mVar 0) mNil)))) sNo sNil)
  (sSeq (sIf (mOr (mNot (mTest (mCall m_is_integer (mCons (mVar 1) mNil)))) (mTest (mBin (gEq) (mVar 1) (mC (.int 0))))) sNo sNil)
  (sRet (mCall m_reduced (mCons (mVar 0) (mCons (mVar 1) mNil))))))
def m_lowest : List W → Sto → Option (W × Sto) := callP (runPure 2 2 b_lowest)
theorem ok_lowest {P : Program} {w : World} {K : PySem.W.Frag} {mg : Str → Option Value} {base : Heap} (D : DefT K mg "lowest" s_lowest) (h_is_integer : Has P w K mg base "is_integer" s_is_integer ["value"] 1 m_is_integer) (h_reduced : Has P w K mg base "reduced" s_reduced ["top", "base"] 2 m_reduced) : Has P w K mg base "lowest" s_lowest ["top", "base"] 3 m_lowest :=
  has_pure (N := nm_lowest) (ps := ["top", "base"]) (k := 2) (body := b_lowest) D sc_lowest (fun _ _ _ _ _ _ us hl => match us, hl with | [_, _], _ => rfl) (fun f cdv A outer s H E hr => (mss_cons (ms_if (mt_not (mt_val (mh_call h_is_integer (hr.mono (by decide)) rfl (ma_cons (mv 0) ma_nil)))) (mss_one ms_never) mss_nil)
      (mss_cons (ms_if (PW.pt (mw_or (mt_not (mt_val (mh_call h_is_integer (hr.mono (by decide)) rfl (ma_cons (mv 1) ma_nil)))) (mw_or1 (mt_cmp (om_eq hr) (mv 1) me_int (nomark _))))) (mss_one ms_never) mss_nil)
      (mss_one (ms_ret (mh_call h_reduced (hr.mono (by decide)) rfl (ma_cons (mv 0) (ma_cons (mv 1) ma_nil))))))))
/-! check_two -/
abbrev s_check_two : Stmt := top 14
abbrev nm_check_two : List Str := ["one", "other"]
theorem sc_check_two : FnScope ["one", "other"] ["one", "other"] (defScope s_check_two) := ⟨rfl, rfl, rfl, by decide +kernel, rfl, by decide +kernel, by decide +kernel⟩
def b_check_two : MS :=
  (sSeq (sExpr (mCall m_check_fraction (mCons (mVar 0) mNil)))
  (sExpr (mCall m_check_fraction (mCons (mVar 1) mNil))))
def m_check_two : List W → Sto → Option (W × Sto) := callP (runPure 2 2 b_check_two)
theorem ok_check_two {P : Program} {w : World} {K : PySem.W.Frag} {mg : Str → Option Value} {base : Heap} (D : DefT K mg "check_two" s_check_two) (h_check_fraction : Has P w K mg base "check_fraction" s_check_fraction ["value"] 3 m_check_fraction) : Has P w K mg base "check_two" s_check_two ["one", "other"] 4 m_check_two :=
  has_pure (N := nm_check_two) (ps := ["one", "other"]) (k := 3) (body := b_check_two) D sc_check_two (fun _ _ _ _ _ _ us hl => match us, hl with | [_, _], _ => rfl) (fun f cdv A outer s H E hr => (mss_cons (ms_expr (mh_call h_check_fraction (hr.mono (by decide)) rfl (ma_cons (mv 0) ma_nil)))
      (mss_one (ms_expr (mh_call h_check_fraction (hr.mono (by decide)) rfl (ma_cons (mv 1) ma_nil))))))
/-! add -/
abbrev s_add : Stmt := top 15
abbrev nm_add : List Str := ["one", "other"]
theorem sc_add : FnScope ["one", "other"] ["one", "other"] (defScope s_add) := ⟨rfl, rfl, rfl, by decide +kernel, rfl, by decide +kernel, by decide +kernel⟩
def b_add : MS :=
  (sRet (mCall m_reduced (mCons (mBin (gAdd .pure) (mBin (gMul .pure) (mBin gIx (mVar 0) (mC (.int 0))) (mBin gIx (mVar 1) (mC (.int 1)))) (mBin (gMul .pure) (mBin gIx (mVar 1) (mC (.int 0))) (mBin gIx (mVar 0) (mC (.int 1))))) (mCons (mBin (gMul .pure) (mBin gIx (mVar 0) (mC (.int 1))) (mBin gIx (mVar 1) (mC (.int 1)))) mNil))))
def m_add : List W → Sto → Option (W × Sto) := callP (runPure 2 2 b_add)
theorem ok_add {P : Program} {w : World} {K : PySem.W.Frag} {mg : Str → Option Value} {base : Heap} (D : DefT K mg "add" s_add) (h_reduced : Has P w K mg base "reduced" s_reduced ["top", "base"] 2 m_reduced) : Has P w K mg base "add" s_add ["one", "other"] 3 m_add :=
  has_pure (N := nm_add) (ps := ["one", "other"]) (k := 2) (body := b_add) D sc_add (fun _ _ _ _ _ _ us hl => match us, hl with | [_, _], _ => rfl) (fun f cdv A outer s H E hr => (mss_one (ms_ret (mh_call h_reduced (hr.mono (by decide)) rfl (ma_cons (me_bin (om_add .pure) (me_bin (om_mul .pure) (me_ix (mv 0) me_int (fun _ _ => rfl)) (me_ix (mv 1) me_int (fun _ _ => rfl))) (me_bin (om_mul .pure) (me_ix (mv 1) me_int (fun _ _ => rfl)) (me_ix (mv 0) me_int (fun _ _ => rfl)))) (ma_cons (me_bin (om_mul .pure) (me_ix (mv 0) me_int (fun _ _ => rfl)) (me_ix (mv 1) me_int (fun _ _ => rfl))) ma_nil))))))
/-! subtract -/
abbrev s_subtract : Stmt := top 16
abbrev nm_subtract : List Str := ["one", "other"]
theorem sc_subtract : FnScope ["one", "other"] ["one", "other"] (defScope s_subtract) := ⟨rfl, rfl, rfl, by decide +kernel, rfl, by decide +kernel, by decide +kernel⟩
def b_subtract : MS :=
  (sRet (mCall m_reduced (mCons (mBin (gInt iSub) (mBin (gMul .pure) (mBin gIx (mVar 0) (mC (.int 0))) (mBin gIx (mVar 1) (mC (.int 1)))) (mBin (gMul .pure) (mBin gIx (mVar 1) (mC (.int 0))) (mBin gIx (mVar 0) (mC (.int 1))))) (mCons (mBin (gMul .pure) (mBin gIx (mVar 0) (mC (.int 1))) (mBin gIx (mVar 1) (mC (.int 1)))) mNil))))
def m_subtract : List W → Sto → Option (W × Sto) := callP (runPure 2 2 b_subtract)
theorem ok_subtract {P : Program} {w : World} {K : PySem.W.Frag} {mg : Str → Option Value} {base : Heap} (D : DefT K mg "subtract" s_subtract) (h_reduced : Has P w K mg base "reduced" s_reduced ["top", "base"] 2 m_reduced) : Has P w K mg base "subtract" s_subtract ["one", "other"] 3 m_subtract :=
  has_pure (N := nm_subtract) (ps := ["one", "other"]) (k := 2) (body := b_subtract) D sc_subtract (fun _ _ _ _ _ _ us hl => match us, hl with | [_, _], _ => rfl) (fun f cdv A outer s H E hr => (mss_one (ms_ret (mh_call h_reduced (hr.mono (by decide)) rfl (ma_cons (me_bin om_sub (me_bin (om_mul .pure) (me_ix (mv 0) me_int (fun _ _ => rfl)) (me_ix (mv 1) me_int (fun _ _ => rfl))) (me_bin (om_mul .pure) (me_ix (mv 1) me_int (fun _ _ => rfl)) (me_ix (mv 0) me_int (fun _ _ => rfl)))) (ma_cons (me_bin (om_mul .pure) (me_ix (mv 0) me_int (fun _ _ => rfl)) (me_ix (mv 1) me_int (fun _ _ => rfl))) ma_nil))))))
/-! multiply -/
abbrev s_multiply : Stmt := top 17
abbrev nm_multiply : List Str := ["one", "other"]
theorem sc_multiply : FnScope ["one", "other"] ["one", "other"] (defScope s_multiply) := ⟨rfl, rfl, rfl, by decide +kernel, rfl, by decide +kernel, by decide +kernel⟩
def b_multiply : MS :=
  (sRet (mCall m_reduced (mCons (mBin (gMul .pure) (mBin gIx (mVar 0) (mC (.int 0))) (mBin gIx (mVar 1) (mC (.int 0)))) (mCons (mBin (gMul .pure) (mBin gIx (mVar 0) (mC (.int 1))) (mBin gIx (mVar 1) (mC (.int 1)))) mNil))))
def m_multiply : List W → Sto → Option (W × Sto) := callP (runPure 2 2 b_multiply)
theorem ok_multiply {P : Program} {w : World} {K : PySem.W.Frag} {mg : Str → Option Value} {base : Heap} (D : DefT K mg "multiply" s_multiply) (h_reduced : Has P w K mg base "reduced" s_reduced ["top", "base"] 2 m_reduced) : Has P w K mg base "multiply" s_multiply ["one", "other"] 3 m_multiply :=
  has_pure (N := nm_multiply) (ps := ["one", "other"]) (k := 2) (body := b_multiply) D sc_multiply (fun _ _ _ _ _ _ us hl => match us, hl with | [_, _], _ => rfl) (fun f cdv A outer s H E hr => (mss_one (ms_ret (mh_call h_reduced (hr.mono (by decide)) rfl (ma_cons (me_bin (om_mul .pure) (me_ix (mv 0) me_int (fun _ _ => rfl)) (me_ix (mv 1) me_int (fun _ _ => rfl))) (ma_cons (me_bin (om_mul .pure) (me_ix (mv 0) me_int (fun _ _ => rfl)) (me_ix (mv 1) me_int (fun _ _ => rfl))) ma_nil))))))
/-! divide -/
abbrev s_divide : Stmt := top 18
abbrev nm_divide : List Str := ["one", "other"]
theorem sc_divide : FnScope ["one", "other"] ["one", "other"] (defScope s_divide) := ⟨rfl, rfl, rfl, by decide +kernel, rfl, by decide +kernel, by decide +kernel⟩
def b_divide : MS :=
  (sRet (mCall m_reduced (mCons (mBin (gMul .pure) (mBin gIx (mVar 0) (mC (.int 0))) (mBin gIx (mVar 1) (mC (.int 1)))) (mCons (mBin (gMul .pure) (mBin gIx (mVar 0) (mC (.int 1))) (mBin gIx (mVar 1) (mC (.int 0)))) mNil))))
def m_divide : List W → Sto → Option (W × Sto) := callP (runPure 2 2 b_divide)
theorem ok_divide {P : Program} {w : World} {K : PySem.W.Frag} {mg : Str → Option Value} {base : Heap} (D : DefT K mg "divide" s_divide) (h_reduced : Has P w K mg base "reduced" s_reduced ["top", "base"] 2 m_reduced) : Has P w K mg base "divide" s_divide ["one", "other"] 3 m_divide :=
  has_pure (N := nm_divide) (ps := ["one", "other"]) (k := 2) (body := b_divide) D sc_divide (fun _ _ _ _ _ _ us hl => match us, hl with | [_, _], _ => rfl) (fun f cdv A outer s H E hr => (mss_one (ms_ret (mh_call h_reduced (hr.mono (by decide)) rfl (ma_cons (me_bin (om_mul .pure) (me_ix (mv 0) me_int (fun _ _ => rfl)) (me_ix (mv 1) me_int (fun _ _ => rfl))) (ma_cons (me_bin (om_mul .pure) (me_ix (mv 0) me_int (fun _ _ => rfl)) (me_ix (mv 1) me_int (fun _ _ => rfl))) ma_nil))))))
/-! is_below -/
abbrev s_is_below : Stmt := top 19
abbrev nm_is_below : List Str := ["one", "other"]
theorem sc_is_below : FnScope ["one", "other"] ["one", "other"] (defScope s_is_below) := ⟨rfl, rfl, rfl, by decide +kernel, rfl, by decide +kernel, by decide +kernel⟩
def b_is_below : MS :=
  (sRet (mBin (gInt iLt) (mBin (gMul .pure) (mBin gIx (mVar 0) (mC (.int 0))) (mBin gIx (mVar 1) (mC (.int 1)))) (mBin (gMul .pure) (mBin gIx (mVar 1) (mC (.int 0))) (mBin gIx (mVar 0) (mC (.int 1))))))
def m_is_below : List W → Sto → Option (W × Sto) := callP (runPure 2 2 b_is_below)
theorem ok_is_below {P : Program} {w : World} {K : PySem.W.Frag} {mg : Str → Option Value} {base : Heap} (D : DefT K mg "is_below" s_is_below) : Has P w K mg base "is_below" s_is_below ["one", "other"] 1 m_is_below :=
  has_pure (N := nm_is_below) (ps := ["one", "other"]) (k := 0) (body := b_is_below) D sc_is_below (fun _ _ _ _ _ _ us hl => match us, hl with | [_, _], _ => rfl) (fun f cdv A outer s H E hr => (mss_one (ms_ret (me_cmp om_lt (me_bin (om_mul .pure) (me_ix (mv 0) me_int (fun _ _ => rfl)) (me_ix (mv 1) me_int (fun _ _ => rfl))) (me_bin (om_mul .pure) (me_ix (mv 1) me_int (fun _ _ => rfl)) (me_ix (mv 0) me_int (fun _ _ => rfl))) (nomark _)))))
/-! plus -/
abbrev s_plus : Stmt := top 20
abbrev nm_plus : List Str := ["one", "other"]
theorem sc_plus : FnScope ["one", "other"] ["one", "other"] (defScope s_plus) := ⟨rfl, rfl, rfl, by decide +kernel, rfl, by decide +kernel, by decide +kernel⟩
def b_plus : MS :=
  (sSeq (sExpr (mCall m_check_two (mCons (mVar 0) (mCons (mVar 1) mNil))))
  (sRet (mCall m_add (mCons (mVar 0) (mCons (mVar 1) mNil)))))
def m_plus : List W → Sto → Option (W × Sto) := callP (runPure 2 2 b_plus)
theorem ok_plus {P : Program} {w : World} {K : PySem.W.Frag} {mg : Str → Option Value} {base : Heap} (D : DefT K mg "plus" s_plus) (h_check_two : Has P w K mg base "check_two" s_check_two ["one", "other"] 4 m_check_two) (h_add : Has P w K mg base "add" s_add ["one", "other"] 3 m_add) : Has P w K mg base "plus" s_plus ["one", "other"] 5 m_plus :=
  has_pure (N := nm_plus) (ps := ["one", "other"]) (k := 4) (body := b_plus) D sc_plus (fun _ _ _ _ _ _ us hl => match us, hl with | [_, _], _ => rfl) (fun f cdv A outer s H E hr => (mss_cons (ms_expr (mh_call h_check_two (hr.mono (by decide)) rfl (ma_cons (mv 0) (ma_cons (mv 1) ma_nil))))
      (mss_one (ms_ret (mh_call h_add (hr.mono (by decide)) rfl (ma_cons (mv 0) (ma_cons (mv 1) ma_nil)))))))
/-! minus -/
abbrev s_minus : Stmt := top 21
abbrev nm_minus : List Str := ["one", "other"]
theorem sc_minus : FnScope ["one", "other"] ["one", "other"] (defScope s_minus) := ⟨rfl, rfl, rfl, by decide +kernel, rfl, by decide +kernel, by decide +kernel⟩
def b_minus : MS :=
  (sSeq (sExpr (mCall m_check_two (mCons (mVar 0) (mCons (mVar 1) mNil))))
  (sRet (mCall m_subtract (mCons (mVar 0) (mCons (mVar 1) mNil)))))
def m_minus : List W → Sto → Option (W × Sto) := callP (runPure 2 2 b_minus)
theorem ok_minus {P : Program} {w : World} {K : PySem.W.Frag} {mg : Str → Option Value} {base : Heap} (D : DefT K mg "minus" s_minus) (h_check_two : Has P w K mg base "check_two" s_check_two ["one", "other"] 4 m_check_two) (h_subtract : Has P w K mg base "subtract" s_subtract ["one", "other"] 3 m_subtract) : Has P w K mg base "minus" s_minus ["one", "other"] 5 m_minus :=
  has_pure (N := nm_minus) (ps := ["one", "other"]) (k := 4) (body := b_minus) D sc_minus (fun _ _ _ _ _ _ us hl => match us, hl with | [_, _], _ => rfl) (fun f cdv A outer s H E hr => (mss_cons (ms_expr (mh_call h_check_two (hr.mono (by decide)) rfl (ma_cons (mv 0) (ma_cons (mv 1) ma_nil))))
      (mss_one (ms_ret (mh_call h_subtract (hr.mono (by decide)) rfl (ma_cons (mv 0) (ma_cons (mv 1) ma_nil)))))))
/-! times -/
abbrev s_times : Stmt := top 22
abbrev nm_times : List Str := ["one", "other"]
theorem sc_times : FnScope ["one", "other"] ["one", "other"] (defScope s_times) := ⟨rfl, rfl, rfl, by decide +kernel, rfl, by decide +kernel, by decide +kernel⟩
def b_times : MS :=
  (sSeq (sExpr (mCall m_check_two (mCons (mVar 0) (mCons (mVar 1) mNil))))
  (sRet (mCall m_multiply (mCons (mVar 0) (mCons (mVar 1) mNil)))))
def m_times : List W → Sto → Option (W × Sto) := callP (runPure 2 2 b_times)
theorem ok_times {P : Program} {w : World} {K : PySem.W.Frag} {mg : Str → Option Value} {base : Heap} (D : DefT K mg "times" s_times) (h_check_two : Has P w K mg base "check_two" s_check_two ["one", "other"] 4 m_check_two) (h_multiply : Has P w K mg base "multiply" s_multiply ["one", "other"] 3 m_multiply) : Has P w K mg base "times" s_times ["one", "other"] 5 m_times :=
  has_pure (N := nm_times) (ps := ["one", "other"]) (k := 4) (body := b_times) D sc_times (fun _ _ _ _ _ _ us hl => match us, hl with | [_, _], _ => rfl) (fun f cdv A outer s H E hr => (mss_cons (ms_expr (mh_call h_check_two (hr.mono (by decide)) rfl (ma_cons (mv 0) (ma_cons (mv 1) ma_nil))))
      (mss_one (ms_ret (mh_call h_multiply (hr.mono (by decide)) rfl (ma_cons (mv 0) (ma_cons (mv 1) ma_nil)))))))
/-! over -/
abbrev s_over : Stmt := top 23
abbrev nm_over : List Str := ["one", "other"]
theorem sc_over : FnScope ["one", "other"] ["one", "other"] (defScope s_over) := ⟨rfl, rfl, rfl, by decide +kernel, rfl, by decide +kernel, by decide +kernel⟩
def b_over : MS :=
  (sSeq (sExpr (mCall m_check_two (mCons (mVar 0) (mCons (mVar 1) mNil))))
  (sSeq (sIf (mTest (mBin (gEq) (mBin gIx (mVar 1) (mC (.int 0))) (mC (.int 0)))) sNo sNil)
  (sRet (mCall m_divide (mCons (mVar 0) (mCons (mVar 1) mNil))))))
def m_over : List W → Sto → Option (W × Sto) := callP (runPure 2 2 b_over)
theorem ok_over {P : Program} {w : World} {K : PySem.W.Frag} {mg : Str → Option Value} {base : Heap} (D : DefT K mg "over" s_over) (h_check_two : Has P w K mg base "check_two" s_check_two ["one", "other"] 4 m_check_two) (h_divide : Has P w K mg base "divide" s_divide ["one", "other"] 3 m_divide) : Has P w K mg base "over" s_over ["one", "other"] 5 m_over :=
  has_pure (N := nm_over) (ps := ["one", "other"]) (k := 4) (body := b_over) D sc_over (fun _ _ _ _ _ _ us hl => match us, hl with | [_, _], _ => rfl) (fun f cdv A outer s H E hr => (mss_cons (ms_expr (mh_call h_check_two (hr.mono (by decide)) rfl (ma_cons (mv 0) (ma_cons (mv 1) ma_nil))))
      (mss_cons (ms_if (mt_cmp (om_eq hr) (me_ix (mv 1) me_int (fun _ _ => rfl)) me_int (nomark _)) (mss_one ms_never) mss_nil)
      (mss_one (ms_ret (mh_call h_divide (hr.mono (by decide)) rfl (ma_cons (mv 0) (ma_cons (mv 1) ma_nil))))))))
/-! compared -/
abbrev s_compared : Stmt := top 24
abbrev nm_compared : List Str := ["one", "other"]
theorem sc_compared : FnScope ["one", "other"] ["one", "other"] (defScope s_compared) := ⟨rfl, rfl, rfl, by decide +kernel, rfl, by decide +kernel, by decide +kernel⟩
def b_compared : MS :=
  (sSeq (sExpr (mCall m_check_two (mCons (mVar 0) (mCons (mVar 1) mNil))))
  (sSeq (sIf (mTest (mBin (gEq) (mVar 0) (mVar 1))) (sRet (mC (.int 0))) sNil)
  (sRet (mIf (mTest (mCall m_is_below (mCons (mVar 0) (mCons (mVar 1) mNil)))) (mUn gNeg (mC (.int 1))) (mC (.int 1))))))
def m_compared : List W → Sto → Option (W × Sto) := callP (runPure 2 2 b_compared)
theorem ok_compared {P : Program} {w : World} {K : PySem.W.Frag} {mg : Str → Option Value} {base : Heap} (D : DefT K mg "compared" s_compared) (h_check_two : Has P w K mg base "check_two" s_check_two ["one", "other"] 4 m_check_two) (h_is_below : Has P w K mg base "is_below" s_is_below ["one", "other"] 1 m_is_below) : Has P w K mg base "compared" s_compared ["one", "other"] 5 m_compared :=
  has_pure (N := nm_compared) (ps := ["one", "other"]) (k := 4) (body := b_compared) D sc_compared (fun _ _ _ _ _ _ us hl => match us, hl with | [_, _], _ => rfl) (fun f cdv A outer s H E hr => (mss_cons (ms_expr (mh_call h_check_two (hr.mono (by decide)) rfl (ma_cons (mv 0) (ma_cons (mv 1) ma_nil))))
      (mss_cons (ms_if (mt_cmp (om_eq hr) (mv 0) (mv 1) (nomark _)) (mss_one (ms_ret me_int)) mss_nil)
      (mss_one (ms_ret (me_if (mt_val (mh_call h_is_below (hr.mono (by decide)) rfl (ma_cons (mv 0) (ma_cons (mv 1) ma_nil)))) (me_neg me_int) me_int))))))
/-! _law_cell -/
abbrev s__law_cell : Stmt := top 26
abbrev nm__law_cell : List Str := ["script", "k"]
theorem sc__law_cell : FnScope ["script", "k"] ["script", "k"] (defScope s__law_cell) := ⟨rfl, rfl, rfl, by decide +kernel, rfl, by decide +kernel, by decide +kernel⟩
def b__law_cell : MS :=
  (sRet (mIf (mTest (mBin (gInt iLt) (mVar 1) (mCall gLen (mCons (mVar 0) mNil)))) (mBin gIx (mVar 0) (mVar 1)) (mBin (gAdd .pure) (mBin (gMul .pure) (mC (.int 7605)) (mVar 1)) (mBin (gInt iMod) (mCall gToInt (mCons (mCall (gIs fun is => some (.int is.sum)) (mCons (mSl .pure (mVar 0) mNo (mSo (mC (.int 1)))) mNil)) mNil)) (mC (.int 1000003))))))
def m__law_cell : List W → Sto → Option (W × Sto) := runDef 2 2 false b__law_cell
theorem ok__law_cell {P : Program} {w : World} {K : PySem.W.Frag} {mg : Str → Option Value} {base : Heap} (D : DefT K mg "_law_cell" s__law_cell) (z_len : mg "len" = none) (z_sum : mg "sum" = none) (z_int : mg "int" = none) : Has P w K mg base "_law_cell" s__law_cell ["script", "k"] 1 m__law_cell :=
  has_def (N := nm__law_cell) (ps := ["script", "k"]) (k := 0) (body := b__law_cell) D sc__law_cell (fun _ _ _ _ _ _ us hl => match us, hl with | [_, _], _ => rfl) (fun f cdv A outer s H E hr => (mss_one (ms_ret (me_if (mt_cmp om_lt (mv 1) (me_callB cm_len rfl z_len bb_len (ma_cons (mv 0) ma_nil)) (nomark _)) (me_ix (mv 0) (mv 1) (fun _ _ => rfl)) (me_bin (om_add .pure) (me_bin (om_mul .pure) me_int (mv 1)) (me_bin om_mod (me_callTy cm_int rfl z_int bb_int (ma_cons (me_callB (cm_sum rfl) rfl z_sum bb_sum (ma_cons (me_sl .pure (mv 0) mo_no (mo_so me_int)) ma_nil)) ma_nil)) me_int))))))
/-! _law_box -/
abbrev s__law_box : Stmt := top 27
abbrev nm__law_box : List Str := ["great"]
theorem sc__law_box : FnScope ["great"] ["great"] (defScope s__law_box) := ⟨rfl, rfl, rfl, by decide +kernel, rfl, by decide +kernel, by decide +kernel⟩
def b__law_box : MS :=
  (sRet (mList .own (mCons (mCall gAbs (mCons (mVar 0) mNil)) (mCons (mBin (gInt iGe) (mCall gAbs (mCons (mVar 0) mNil)) (mBin (gInt iPow) (mC (.int 10)) (mC (.int 18)))) (mCons (mBin (gInt iMod) (mCall gToInt (mCons (mCall gAbs (mCons (mVar 0) mNil)) mNil)) (mC (.int 2147483629))) (mCons (mC (.int 0)) mNil))))))
def m__law_box : List W → Sto → Option (W × Sto) := runDef 1 1 true b__law_box
theorem ok__law_box {P : Program} {w : World} {K : PySem.W.Frag} {mg : Str → Option Value} {base : Heap} (D : DefT K mg "_law_box" s__law_box) (z_abs : mg "abs" = none) (z_int : mg "int" = none) : Has P w K mg base "_law_box" s__law_box ["great"] 1 m__law_box :=
  has_def (N := nm__law_box) (ps := ["great"]) (k := 0) (body := b__law_box) D sc__law_box (fun _ _ _ _ _ _ us hl => match us, hl with | [_], _ => rfl) (fun f cdv A outer s H E hr => (mss_one (ms_ret (me_list .own (ma_cons (me_callB cm_abs rfl z_abs bb_abs (ma_cons (mv 0) ma_nil)) (ma_cons (me_cmp om_ge (me_callB cm_abs rfl z_abs bb_abs (ma_cons (mv 0) ma_nil)) (me_bin om_pow me_int me_int) (nomark _)) (ma_cons (me_bin om_mod (me_callTy cm_int rfl z_int bb_int (ma_cons (me_callB cm_abs rfl z_abs bb_abs (ma_cons (mv 0) ma_nil)) ma_nil)) me_int) (ma_cons me_int ma_nil))))))))
/-! _law_take -/
abbrev s__law_take : Stmt := top 28
abbrev nm__law_take : List Str := ["box", "many", "mixed", "digit"]
theorem sc__law_take : FnScope ["box", "many", "mixed", "digit"] ["box", "many"] (defScope s__law_take) := ⟨rfl, rfl, rfl, by decide +kernel, rfl, by decide +kernel, by decide +kernel⟩
def b__law_take : MS :=
  (sSeq (sIf (mAnd (mTest (mBin gIx (mVar 0) (mC (.int 1)))) (mTest (mBin (gInt iGt) (mBin gIx (mVar 0) (mC (.int 0))) (mC (.int 0))))) (sSeq (sAsg (mBin (gInt iMod) (mCall gToInt (mCons (mBin gIx (mVar 0) (mC (.int 0))) mNil)) (mVar 1)) (mgName 3))
  (sSeq (sAsg (mBin (gInt iDiv) (mBin gIx (mVar 0) (mC (.int 0))) (mVar 1)) (mgSub (mVar 0) (mC (.int 0))))
  (sRet (mVar 3)))) sNil)
  (sSeq (sAsg (mBin (gAdd .pure) (mBin gIx (mVar 0) (mC (.int 3))) (mC (.int 1))) (mgSub (mVar 0) (mC (.int 3))))
  (sSeq (sAsg (mBin (gInt iMod) (mCall gToInt (mCons (mBin (gInt iPow) (mBin (gAdd .pure) (mBin (gAdd .pure) (mBin gIx (mVar 0) (mC (.int 2))) (mBin (gMul .pure) (mC (.int 15486029)) (mBin gIx (mVar 0) (mC (.int 3))))) (mC (.int 179425109))) (mC (.int 5))) mNil)) (mC (.int 2147483647))) (mgName 2))
  (sRet (mBin (gInt iMod) (mCall gToInt (mCons (mBin (gInt iDiv) (mBin (gInt iMod) (mCall gToInt (mCons (mBin (gInt iPow) (mBin (gAdd .pure) (mBin (gMul .pure) (mVar 2) (mC (.int 48271))) (mBin (gMul .pure) (mC (.int 8101)) (mBin gIx (mVar 0) (mC (.int 3))))) (mC (.int 3))) mNil)) (mC (.int 2147483587))) (mC (.int 64))) mNil)) (mVar 1))))))
def m__law_take : List W → Sto → Option (W × Sto) := runDef 4 2 false b__law_take
theorem ok__law_take {P : Program} {w : World} {K : PySem.W.Frag} {mg : Str → Option Value} {base : Heap} (D : DefT K mg "_law_take" s__law_take) (z_int : mg "int" = none) : Has P w K mg base "_law_take" s__law_take ["box", "many"] 1 m__law_take :=
  has_def (N := nm__law_take) (ps := ["box", "many"]) (k := 0) (body := b__law_take) D sc__law_take (fun _ _ _ _ _ _ us hl => match us, hl with | [_, _], _ => rfl) (fun f cdv A outer s H E hr => (mss_cons (ms_if (PW.pt (mw_and (mt_val (me_ix (mv 0) me_int (fun _ _ => rfl))) (mw_and1 (mt_cmp om_gt (me_ix (mv 0) me_int (fun _ _ => rfl)) me_int (nomark _))))) (mss_cons (ms_set 3 sc__law_take.nd (me_bin om_mod (me_callTy cm_int rfl z_int bb_int (ma_cons (me_ix (mv 0) me_int (fun _ _ => rfl)) ma_nil)) (mv 1)))
      (mss_cons (ms_asg (me_bin om_div (me_ix (mv 0) me_int (fun _ _ => rfl)) (mv 1)) (mg_sub (mv 0) me_int))
      (mss_one (ms_ret (mv 3))))) mss_nil)
      (mss_cons (ms_asg (me_bin (om_add .pure) (me_ix (mv 0) me_int (fun _ _ => rfl)) me_int) (mg_sub (mv 0) me_int))
      (mss_cons (ms_set 2 sc__law_take.nd (me_bin om_mod (me_callTy cm_int rfl z_int bb_int (ma_cons (me_bin om_pow (me_bin (om_add .pure) (me_bin (om_add .pure) (me_ix (mv 0) me_int (fun _ _ => rfl)) (me_bin (om_mul .pure) me_int (me_ix (mv 0) me_int (fun _ _ => rfl)))) me_int) me_int) ma_nil)) me_int))
      (mss_one (ms_ret (me_bin om_mod (me_callTy cm_int rfl z_int bb_int (ma_cons (me_bin om_div (me_bin om_mod (me_callTy cm_int rfl z_int bb_int (ma_cons (me_bin om_pow (me_bin (om_add .pure) (me_bin (om_mul .pure) (mv 2) me_int) (me_bin (om_mul .pure) me_int (me_ix (mv 0) me_int (fun _ _ => rfl)))) me_int) ma_nil)) me_int) me_int) ma_nil)) (mv 1))))))))
/-! _law_pick -/
abbrev s__law_pick : Stmt := top 29
abbrev nm__law_pick : List Str := ["box", "items"]
theorem sc__law_pick : FnScope ["box", "items"] ["box", "items"] (defScope s__law_pick) := ⟨rfl, rfl, rfl, by decide +kernel, rfl, by decide +kernel, by decide +kernel⟩
def b__law_pick : MS :=
  (sRet (mBin gIx (mVar 1) (mCall m__law_take (mCons (mVar 0) (mCons (mCall gLen (mCons (mVar 1) mNil)) mNil)))))
def m__law_pick : List W → Sto → Option (W × Sto) := runDef 2 2 false b__law_pick
theorem ok__law_pick {P : Program} {w : World} {K : PySem.W.Frag} {mg : Str → Option Value} {base : Heap} (D : DefT K mg "_law_pick" s__law_pick) (h__law_take : Has P w K mg base "_law_take" s__law_take ["box", "many"] 1 m__law_take) (z_len : mg "len" = none) : Has P w K mg base "_law_pick" s__law_pick ["box", "items"] 2 m__law_pick :=
  has_def (N := nm__law_pick) (ps := ["box", "items"]) (k := 1) (body := b__law_pick) D sc__law_pick (fun _ _ _ _ _ _ us hl => match us, hl with | [_, _], _ => rfl) (fun f cdv A outer s H E hr => (mss_one (ms_ret (me_ix (mv 1) (mh_call h__law_take (hr.mono (by decide)) rfl (ma_cons (mv 0) (ma_cons (me_callB cm_len rfl z_len bb_len (ma_cons (mv 1) ma_nil)) ma_nil))) (fun _ _ => rfl)))))
/-! _law_mixed -/
abbrev s__law_mixed : Stmt := top 30
abbrev nm__law_mixed : List Str := ["box", "items", "k", "left", "found"]
theorem sc__law_mixed : FnScope ["box", "items", "k", "left", "found"] ["box", "items"] (defScope s__law_mixed) := ⟨rfl, rfl, rfl, by decide +kernel, rfl, by decide +kernel, by decide +kernel⟩
def b__law_mixed : MS :=
  (sSeq (sPar 3 4 (mCons (mCall (gListOf .own) (mCons (mVar 1) mNil)) (mCons (mList .own mNil) mNil)))
  (sSeq (sFor (miRange1 (mCons (mCall gLen (mCons (mVar 1) mNil)) mNil)) (mgName 2) (sExpr (mMeth "list" gAppend (mVar 4) (mCons (mMeth "list" gPopAt (mVar 3) (mCons (mCall m__law_take (mCons (mVar 0) (mCons (mCall gLen (mCons (mVar 3) mNil)) mNil))) mNil)) mNil))))
  (sRet (mVar 4))))
def m__law_mixed : List W → Sto → Option (W × Sto) := runDef 5 2 false b__law_mixed
theorem ok__law_mixed {P : Program} {w : World} {K : PySem.W.Frag} {mg : Str → Option Value} {base : Heap} (D : DefT K mg "_law_mixed" s__law_mixed) (h__law_take : Has P w K mg base "_law_take" s__law_take ["box", "many"] 1 m__law_take) (z_list : mg "list" = none) (z_len : mg "len" = none) (z_range : mg "range" = none) : Has P w K mg base "_law_mixed" s__law_mixed ["box", "items"] 2 m__law_mixed :=
  has_def (N := nm__law_mixed) (ps := ["box", "items"]) (k := 1) (body := b__law_mixed) D sc__law_mixed (fun _ _ _ _ _ _ us hl => match us, hl with | [_, _], _ => rfl) (fun f cdv A outer s H E hr => (mss_cons (ms_par (ps_par (i := 3) (j := 4) rfl sc__law_mixed.nd rfl rfl (by decide) rfl rfl (ma_cons (me_callTy (cm_list .own) rfl z_list bb_list (ma_cons (mv 1) ma_nil)) (ma_cons (me_list .own ma_nil) ma_nil)) (by rfl)))
      (mss_cons (ms_for PassesOwn.never rfl (mi_range1 rfl z_range (ma_cons (me_callB cm_len rfl z_len bb_len (ma_cons (mv 1) ma_nil)) ma_nil)) (gv 2 sc__law_mixed.nd) (mss_one (ms_expr (me_meth PySem.F.plainAttrs_list PySem.F.slot_list_append PySem.F.type_list_append mm_append (mv 4) (ma_cons (me_meth PySem.F.plainAttrs_list PySem.F.slot_list_pop PySem.F.type_list_pop mm_popAt (mv 3) (ma_cons (mh_call h__law_take (hr.mono (by decide)) rfl (ma_cons (mv 0) (ma_cons (me_callB cm_len rfl z_len bb_len (ma_cons (mv 3) ma_nil)) ma_nil))) ma_nil)) ma_nil)))))
      (mss_one (ms_ret (mv 4))))))
/-! _law_same -/
abbrev s__law_same : Stmt := top 31
abbrev nm__law_same : List Str := ["given", "due", "k", "key"]
theorem sc__law_same : FnScope ["given", "due", "k", "key"] ["given", "due"] (defScope s__law_same) := ⟨rfl, rfl, rfl, by decide +kernel, rfl, by decide +kernel, by decide +kernel⟩
def b__law_same (self : List W → Sto → Option (W × Sto)) : MS :=
  (sSeq (sIf (mOr (mTest (mBin (gOr gIsN gIsB) (mVar 1) (mC .non))) (mTest (mUn (gIsi "bool") (mVar 1)))) (sRet (mIf (mTest (mBin (gOr gIsN gIsB) (mVar 1) (mC .non))) (mBin (gOr gIsN gIsB) (mVar 0) (mC .non)) (mAndV (mUn (gIsi "bool") (mVar 0)) (mBin (gEq) (mBin (gOr gIsN gIsB) (mVar 0) (mC (.bl true))) (mBin (gOr gIsN gIsB) (mVar 1) (mC (.bl true))))))) sNil)
  (sSeq (sIf (mTest (mUn (gIsi "int") (mVar 1))) (sRet (mAndV (mUn (gIsi "int") (mVar 0)) (mAndV (mNotV (mUn (gIsi "bool") (mVar 0))) (mBin (gEq) (mBin (gInt iSub) (mCall gToInt (mCons (mVar 0) mNil)) (mVar 1)) (mC (.int 0)))))) sNil)
  (sSeq (sIf (mTest (mUn (gIsi "str") (mVar 1))) (sRet (mAndV (mUn (gIsi "str") (mVar 0)) (mBin (gEq) (mVar 0) (mVar 1)))) sNil)
  (sSeq (sIf (mOr (mTest (mBin (gNe) (mUn (gIsi "list") (mVar 0)) (mUn (gIsi "list") (mVar 1)))) (mTest (mBin (gNe) (mUn (gIsi "tuple") (mVar 0)) (mUn (gIsi "tuple") (mVar 1))))) (sRet (mC (.bl false))) sNil)
  (sSeq (sIf (mTest (mUn (gIsi "dict") (mVar 1))) (sRet (mAndV (mUn (gIsi "dict") (mVar 0)) (mAndV (mBin (gEq) (mCall gLen (mCons (mVar 0) mNil)) (mCall gLen (mCons (mVar 1) mNil))) (mBin (gEq) (mLc .pure (miSeq (mVar 1)) (.nm 3) (mOr (mTest (mBin (gIn true) (mVar 3) (mVar 0))) (mNot (mTest (mCall self (mCons (mBin gIx (mVar 0) (mVar 3)) (mCons (mBin gIx (mVar 1) (mVar 3)) mNil)))))) (mVar 3) [3]) (mList .pure mNil))))) sNil)
  (sSeq (sIf (mNot (mTest (mUn (gIsi2 "list" "tuple") (mVar 1)))) (sRet (mC (.bl false))) sNil)
  (sRet (mAndV (mBin (gEq) (mCall gLen (mCons (mVar 0) mNil)) (mCall gLen (mCons (mVar 1) mNil))) (mBin (gEq) (mLc .pure (miRange1 (mCons (mCall gLen (mCons (mVar 1) mNil)) mNil)) (.nm 2) (mNot (mTest (mCall self (mCons (mBin gIx (mVar 0) (mVar 2)) (mCons (mBin gIx (mVar 1) (mVar 2)) mNil))))) (mVar 2) [2]) (mList .pure mNil))))))))))
def m__law_same : Nat → List W → Sto → Option (W × Sto)
  | 0 => fun _ _ => none
  | n + 1 => callP (runPure 4 2 (b__law_same (m__law_same n)))
theorem ok__law_same {P : Program} {w : World} {K : PySem.W.Frag} {mg : Str → Option Value} {base : Heap} (D : DefT K mg "_law_same" s__law_same) (z_isinstance : mg "isinstance" = none) (z_bool : mg "bool" = none) (z_int : mg "int" = none) (z_str : mg "str" = none) (z_list : mg "list" = none) (z_tuple : mg "tuple" = none) (z_dict : mg "dict" = none) (z_len : mg "len" = none) (z_range : mg "range" = none) : ∀ n : Nat, Has P w K mg base "_law_same" s__law_same ["given", "due"] (0 + n) (m__law_same n)
  | 0 => has_none D (fun _ _ _ _ _ _ us hl => match us, hl with | [_, _], _ => rfl)
  | n + 1 => by
    have h_self := ok__law_same D z_isinstance z_bool z_int z_str z_list z_tuple z_dict z_len z_range (base := base) (P := P) (w := w) n
    exact has_pure (N := nm__law_same) (ps := ["given", "due"]) (k := 0 + n) (body := b__law_same (m__law_same n)) D sc__law_same (fun _ _ _ _ _ _ us hl => match us, hl with | [_, _], _ => rfl) (fun f cdv A outer s H E hr => (mss_cons (ms_if (PW.pt (mw_or (mt_cmp om_is (mv 1) me_non (nomark _)) (mw_or1 (mt_val (me_isi rfl z_isinstance bb_isinstance rfl z_bool bb_bool ki_bool (mv 1)))))) (mss_one (ms_ret (me_if (mt_cmp om_is (mv 1) me_non (nomark _)) (me_cmp om_is (mv 0) me_non (nomark _)) (me_and (me_isi rfl z_isinstance bb_isinstance rfl z_bool bb_bool ki_bool (mv 0)) (me_one (me_cmp (om_eq hr) (me_cmp om_is (mv 0) me_bl (nomark _)) (me_cmp om_is (mv 1) me_bl (nomark _)) (nomark _))))))) mss_nil)
      (mss_cons (ms_if (mt_val (me_isi rfl z_isinstance bb_isinstance rfl z_int bb_int ki_int (mv 1))) (mss_one (ms_ret (me_and (me_isi rfl z_isinstance bb_isinstance rfl z_int bb_int ki_int (mv 0)) (me_and (me_not (me_isi rfl z_isinstance bb_isinstance rfl z_bool bb_bool ki_bool (mv 0))) (me_one (me_cmp (om_eq hr) (me_bin om_sub (me_callTy cm_int rfl z_int bb_int (ma_cons (mv 0) ma_nil)) (mv 1)) me_int (nomark _))))))) mss_nil)
      (mss_cons (ms_if (mt_val (me_isi rfl z_isinstance bb_isinstance rfl z_str bb_str ki_str (mv 1))) (mss_one (ms_ret (me_and (me_isi rfl z_isinstance bb_isinstance rfl z_str bb_str ki_str (mv 0)) (me_one (me_cmp (om_eq hr) (mv 0) (mv 1) (nomark _)))))) mss_nil)
      (mss_cons (ms_if (PW.pt (mw_or (mt_cmp (om_ne hr) (me_isi rfl z_isinstance bb_isinstance rfl z_list bb_list ki_list (mv 0)) (me_isi rfl z_isinstance bb_isinstance rfl z_list bb_list ki_list (mv 1)) (nomark _)) (mw_or1 (mt_cmp (om_ne hr) (me_isi rfl z_isinstance bb_isinstance rfl z_tuple bb_tuple ki_tuple (mv 0)) (me_isi rfl z_isinstance bb_isinstance rfl z_tuple bb_tuple ki_tuple (mv 1)) (nomark _))))) (mss_one (ms_ret me_bl)) mss_nil)
      (mss_cons (ms_if (mt_val (me_isi rfl z_isinstance bb_isinstance rfl z_dict bb_dict ki_dict (mv 1))) (mss_one (ms_ret (me_and (me_isi rfl z_isinstance bb_isinstance rfl z_dict bb_dict ki_dict (mv 0)) (me_and (me_cmp (om_eq hr) (me_callB cm_len rfl z_len bb_len (ma_cons (mv 0) ma_nil)) (me_callB cm_len rfl z_len bb_len (ma_cons (mv 1) ma_nil)) (nomark _)) (me_one (me_cmp (om_eq hr) (me_lc .pure (.nm 3) (own := [("key", 3)]) rfl sc__law_same.nd  (mi_seq (mv 1)) (blkOk_by (N := nm__law_same) (sc := defScope s__law_same) (by decide +kernel)) (fun _ _ _ _ _ => (cv 3 sc__law_same.nd)) (fun _ _ _ _ _ => (pts_one (PW.pt (mw_or (mt_cmp om_notIn (mv 3) (mv 0) (by rfl)) (mw_or1 (mt_not (mt_val (mh_call h_self hr rfl (ma_cons (me_ix (mv 0) (mv 3) (fun _ _ => rfl)) (ma_cons (me_ix (mv 1) (mv 3) (fun _ _ => rfl)) ma_nil)))))))))) (fun _ _ _ _ _ => (mv 3))) (me_list .pure ma_nil) (nomark _))))))) mss_nil)
      (mss_cons (ms_if (mt_not (mt_val (me_isi2 rfl z_isinstance bb_isinstance rfl z_list bb_list ki_list rfl z_tuple bb_tuple ki_tuple (mv 1)))) (mss_one (ms_ret me_bl)) mss_nil)
      (mss_one (ms_ret (me_and (me_cmp (om_eq hr) (me_callB cm_len rfl z_len bb_len (ma_cons (mv 0) ma_nil)) (me_callB cm_len rfl z_len bb_len (ma_cons (mv 1) ma_nil)) (nomark _)) (me_one (me_cmp (om_eq hr) (me_lc .pure (.nm 2) (own := [("k", 2)]) rfl sc__law_same.nd  (mi_range1 rfl z_range (ma_cons (me_callB cm_len rfl z_len bb_len (ma_cons (mv 1) ma_nil)) ma_nil)) (blkOk_by (N := nm__law_same) (sc := defScope s__law_same) (by decide +kernel)) (fun _ _ _ _ _ => (cv 2 sc__law_same.nd)) (fun _ _ _ _ _ => (pts_one (mt_not (mt_val (mh_call h_self hr rfl (ma_cons (me_ix (mv 0) (mv 2) (fun _ _ => rfl)) (ma_cons (me_ix (mv 1) (mv 2) (fun _ _ => rfl)) ma_nil))))))) (fun _ _ _ _ _ => (mv 2))) (me_list .pure ma_nil) (nomark _)))))))))))))
/-! _law_low -/
abbrev s__law_low : Stmt := top 32
abbrev nm__law_low : List Str := ["top", "base", "one", "other"]
theorem sc__law_low : FnScope ["top", "base", "one", "other"] ["top", "base"] (defScope s__law_low) := ⟨rfl, rfl, rfl, by decide +kernel, rfl, by decide +kernel, by decide +kernel⟩
def b__law_low : MS :=
  (sSeq (sPar 2 3 (mCons (mCall gAbs (mCons (mVar 0) mNil)) (mCons (mCall gAbs (mCons (mVar 1) mNil)) mNil)))
  (sSeq (sWhile (fuelAbs 3) (mTest (mBin (gNe) (mVar 3) (mC (.int 0)))) (sPar 2 3 (mCons (mVar 3) (mCons (mBin (gInt iMod) (mCall gToInt (mCons (mVar 2) mNil)) (mVar 3)) mNil))))
  (sRet (mIf (mTest (mBin (gInt iGt) (mVar 1) (mC (.int 0)))) (mTup (mCons (mBin (gInt iDiv) (mVar 0) (mVar 2)) (mCons (mBin (gInt iDiv) (mVar 1) (mVar 2)) mNil))) (mTup (mCons (mBin (gInt iDiv) (mUn gNeg (mVar 0)) (mVar 2)) (mCons (mBin (gInt iDiv) (mUn gNeg (mVar 1)) (mVar 2)) mNil)))))))
def m__law_low : List W → Sto → Option (W × Sto) := callP (runPure 4 2 b__law_low)
theorem ok__law_low {P : Program} {w : World} {K : PySem.W.Frag} {mg : Str → Option Value} {base : Heap} (D : DefT K mg "_law_low" s__law_low) (z_abs : mg "abs" = none) (z_int : mg "int" = none) : Has P w K mg base "_law_low" s__law_low ["top", "base"] 1 m__law_low :=
  has_pure (N := nm__law_low) (ps := ["top", "base"]) (k := 0) (body := b__law_low) D sc__law_low (fun _ _ _ _ _ _ us hl => match us, hl with | [_, _], _ => rfl) (fun f cdv A outer s H E hr => (mss_cons (ms_par (ps_par (i := 2) (j := 3) rfl sc__law_low.nd rfl rfl (by decide) rfl rfl (ma_cons (me_callB cm_abs rfl z_abs bb_abs (ma_cons (mv 0) ma_nil)) (ma_cons (me_callB cm_abs rfl z_abs bb_abs (ma_cons (mv 1) ma_nil)) ma_nil)) (by rfl)))
      (mss_cons (ms_while (fuelAbs 3) PassesOwn.never (mt_cmp (om_ne hr) (mv 3) me_int (nomark _)) (mss_one (ms_par (ps_par (i := 2) (j := 3) rfl sc__law_low.nd rfl rfl (by decide) rfl rfl (ma_cons (mv 3) (ma_cons (me_bin om_mod (me_callTy cm_int rfl z_int bb_int (ma_cons (mv 2) ma_nil)) (mv 3)) ma_nil)) (by rfl)))))
      (mss_one (ms_ret (me_if (mt_cmp om_gt (mv 1) me_int (nomark _)) (me_tup (ma_cons (me_bin om_div (mv 0) (mv 2)) (ma_cons (me_bin om_div (mv 1) (mv 2)) ma_nil))) (me_tup (ma_cons (me_bin om_div (me_neg (mv 0)) (mv 2)) (ma_cons (me_bin om_div (me_neg (mv 1)) (mv 2)) ma_nil)))))))))
/-! _law_add -/
abbrev s__law_add : Stmt := top 33
abbrev nm__law_add : List Str := ["one", "other"]
theorem sc__law_add : FnScope ["one", "other"] ["one", "other"] (defScope s__law_add) := ⟨rfl, rfl, rfl, by decide +kernel, rfl, by decide +kernel, by decide +kernel⟩
def b__law_add : MS :=
  (sRet (mCall m__law_low (mCons (mBin (gAdd .pure) (mBin (gMul .pure) (mBin gIx (mVar 0) (mC (.int 0))) (mBin gIx (mVar 1) (mC (.int 1)))) (mBin (gMul .pure) (mBin gIx (mVar 1) (mC (.int 0))) (mBin gIx (mVar 0) (mC (.int 1))))) (mCons (mBin (gMul .pure) (mBin gIx (mVar 0) (mC (.int 1))) (mBin gIx (mVar 1) (mC (.int 1)))) mNil))))
def m__law_add : List W → Sto → Option (W × Sto) := callP (runPure 2 2 b__law_add)
theorem ok__law_add {P : Program} {w : World} {K : PySem.W.Frag} {mg : Str → Option Value} {base : Heap} (D : DefT K mg "_law_add" s__law_add) (h__law_low : Has P w K mg base "_law_low" s__law_low ["top", "base"] 1 m__law_low) : Has P w K mg base "_law_add" s__law_add ["one", "other"] 2 m__law_add :=
  has_pure (N := nm__law_add) (ps := ["one", "other"]) (k := 1) (body := b__law_add) D sc__law_add (fun _ _ _ _ _ _ us hl => match us, hl with | [_, _], _ => rfl) (fun f cdv A outer s H E hr => (mss_one (ms_ret (mh_call h__law_low (hr.mono (by decide)) rfl (ma_cons (me_bin (om_add .pure) (me_bin (om_mul .pure) (me_ix (mv 0) me_int (fun _ _ => rfl)) (me_ix (mv 1) me_int (fun _ _ => rfl))) (me_bin (om_mul .pure) (me_ix (mv 1) me_int (fun _ _ => rfl)) (me_ix (mv 0) me_int (fun _ _ => rfl)))) (ma_cons (me_bin (om_mul .pure) (me_ix (mv 0) me_int (fun _ _ => rfl)) (me_ix (mv 1) me_int (fun _ _ => rfl))) ma_nil))))))
/-! _law_less -/
abbrev s__law_less : Stmt := top 34
abbrev nm__law_less : List Str := ["one", "other"]
theorem sc__law_less : FnScope ["one", "other"] ["one", "other"] (defScope s__law_less) := ⟨rfl, rfl, rfl, by decide +kernel, rfl, by decide +kernel, by decide +kernel⟩
def b__law_less : MS :=
  (sRet (mCall m__law_low (mCons (mBin (gInt iSub) (mBin (gMul .pure) (mBin gIx (mVar 0) (mC (.int 0))) (mBin gIx (mVar 1) (mC (.int 1)))) (mBin (gMul .pure) (mBin gIx (mVar 1) (mC (.int 0))) (mBin gIx (mVar 0) (mC (.int 1))))) (mCons (mBin (gMul .pure) (mBin gIx (mVar 0) (mC (.int 1))) (mBin gIx (mVar 1) (mC (.int 1)))) mNil))))
def m__law_less : List W → Sto → Option (W × Sto) := callP (runPure 2 2 b__law_less)
theorem ok__law_less {P : Program} {w : World} {K : PySem.W.Frag} {mg : Str → Option Value} {base : Heap} (D : DefT K mg "_law_less" s__law_less) (h__law_low : Has P w K mg base "_law_low" s__law_low ["top", "base"] 1 m__law_low) : Has P w K mg base "_law_less" s__law_less ["one", "other"] 2 m__law_less :=
  has_pure (N := nm__law_less) (ps := ["one", "other"]) (k := 1) (body := b__law_less) D sc__law_less (fun _ _ _ _ _ _ us hl => match us, hl with | [_, _], _ => rfl) (fun f cdv A outer s H E hr => (mss_one (ms_ret (mh_call h__law_low (hr.mono (by decide)) rfl (ma_cons (me_bin om_sub (me_bin (om_mul .pure) (me_ix (mv 0) me_int (fun _ _ => rfl)) (me_ix (mv 1) me_int (fun _ _ => rfl))) (me_bin (om_mul .pure) (me_ix (mv 1) me_int (fun _ _ => rfl)) (me_ix (mv 0) me_int (fun _ _ => rfl)))) (ma_cons (me_bin (om_mul .pure) (me_ix (mv 0) me_int (fun _ _ => rfl)) (me_ix (mv 1) me_int (fun _ _ => rfl))) ma_nil))))))
/-! _law_times -/
abbrev s__law_times : Stmt := top 35
abbrev nm__law_times : List Str := ["one", "other"]
theorem sc__law_times : FnScope ["one", "other"] ["one", "other"] (defScope s__law_times) := ⟨rfl, rfl, rfl, by decide +kernel, rfl, by decide +kernel, by decide +kernel⟩
def b__law_times : MS :=
  (sRet (mCall m__law_low (mCons (mBin (gMul .pure) (mBin gIx (mVar 0) (mC (.int 0))) (mBin gIx (mVar 1) (mC (.int 0)))) (mCons (mBin (gMul .pure) (mBin gIx (mVar 0) (mC (.int 1))) (mBin gIx (mVar 1) (mC (.int 1)))) mNil))))
def m__law_times : List W → Sto → Option (W × Sto) := callP (runPure 2 2 b__law_times)
theorem ok__law_times {P : Program} {w : World} {K : PySem.W.Frag} {mg : Str → Option Value} {base : Heap} (D : DefT K mg "_law_times" s__law_times) (h__law_low : Has P w K mg base "_law_low" s__law_low ["top", "base"] 1 m__law_low) : Has P w K mg base "_law_times" s__law_times ["one", "other"] 2 m__law_times :=
  has_pure (N := nm__law_times) (ps := ["one", "other"]) (k := 1) (body := b__law_times) D sc__law_times (fun _ _ _ _ _ _ us hl => match us, hl with | [_, _], _ => rfl) (fun f cdv A outer s H E hr => (mss_one (ms_ret (mh_call h__law_low (hr.mono (by decide)) rfl (ma_cons (me_bin (om_mul .pure) (me_ix (mv 0) me_int (fun _ _ => rfl)) (me_ix (mv 1) me_int (fun _ _ => rfl))) (ma_cons (me_bin (om_mul .pure) (me_ix (mv 0) me_int (fun _ _ => rfl)) (me_ix (mv 1) me_int (fun _ _ => rfl))) ma_nil))))))
/-! _law_under -/
abbrev s__law_under : Stmt := top 36
abbrev nm__law_under : List Str := ["one", "other"]
theorem sc__law_under : FnScope ["one", "other"] ["one", "other"] (defScope s__law_under) := ⟨rfl, rfl, rfl, by decide +kernel, rfl, by decide +kernel, by decide +kernel⟩
def b__law_under : MS :=
  (sRet (mBin (gInt iLt) (mBin (gMul .pure) (mBin gIx (mVar 0) (mC (.int 0))) (mBin gIx (mVar 1) (mC (.int 1)))) (mBin (gMul .pure) (mBin gIx (mVar 1) (mC (.int 0))) (mBin gIx (mVar 0) (mC (.int 1))))))
def m__law_under : List W → Sto → Option (W × Sto) := callP (runPure 2 2 b__law_under)
theorem ok__law_under {P : Program} {w : World} {K : PySem.W.Frag} {mg : Str → Option Value} {base : Heap} (D : DefT K mg "_law_under" s__law_under) : Has P w K mg base "_law_under" s__law_under ["one", "other"] 1 m__law_under :=
  has_pure (N := nm__law_under) (ps := ["one", "other"]) (k := 0) (body := b__law_under) D sc__law_under (fun _ _ _ _ _ _ us hl => match us, hl with | [_, _], _ => rfl) (fun f cdv A outer s H E hr => (mss_one (ms_ret (me_cmp om_lt (me_bin (om_mul .pure) (me_ix (mv 0) me_int (fun _ _ => rfl)) (me_ix (mv 1) me_int (fun _ _ => rfl))) (me_bin (om_mul .pure) (me_ix (mv 1) me_int (fun _ _ => rfl)) (me_ix (mv 0) me_int (fun _ _ => rfl))) (nomark _)))))
/-! _law_great -/
abbrev s__law_great : Stmt := top 37
abbrev nm__law_great : List Str := ["box", "digits", "found", "turn"]
theorem sc__law_great : FnScope ["box", "digits", "found", "turn"] ["box", "digits"] (defScope s__law_great) := ⟨rfl, rfl, rfl, by decide +kernel, rfl, by decide +kernel, by decide +kernel⟩
def b__law_great : MS :=
  (sSeq (sAsg (mBin (gAdd .pure) (mC (.int 1)) (mCall m__law_take (mCons (mVar 0) (mCons (mC (.int 9)) mNil)))) (mgName 2))
  (sSeq (sFor (miRange1 (mCons (mCall m__law_take (mCons (mVar 0) (mCons (mCall (gMax2) (mCons (mC (.int 1)) (mCons (mBin (gInt iDiv) (mVar 1) (mC (.int 9))) mNil))) mNil))) mNil)) (mgName 3) (sAsg (mBin (gAdd .pure) (mBin (gMul .pure) (mVar 2) (mBin (gInt iPow) (mC (.int 10)) (mC (.int 9)))) (mCall m__law_take (mCons (mVar 0) (mCons (mBin (gInt iPow) (mC (.int 10)) (mC (.int 9))) mNil)))) (mgName 2)))
  (sRet (mVar 2))))
def m__law_great : List W → Sto → Option (W × Sto) := runDef 4 2 false b__law_great
theorem ok__law_great {P : Program} {w : World} {K : PySem.W.Frag} {mg : Str → Option Value} {base : Heap} (D : DefT K mg "_law_great" s__law_great) (h__law_take : Has P w K mg base "_law_take" s__law_take ["box", "many"] 1 m__law_take) (z_max : mg "max" = none) (z_range : mg "range" = none) : Has P w K mg base "_law_great" s__law_great ["box", "digits"] 2 m__law_great :=
  has_def (N := nm__law_great) (ps := ["box", "digits"]) (k := 1) (body := b__law_great) D sc__law_great (fun _ _ _ _ _ _ us hl => match us, hl with | [_, _], _ => rfl) (fun f cdv A outer s H E hr => (mss_cons (ms_set 2 sc__law_great.nd (me_bin (om_add .pure) me_int (mh_call h__law_take (hr.mono (by decide)) rfl (ma_cons (mv 0) (ma_cons me_int ma_nil)))))
      (mss_cons (ms_for PassesOwn.never rfl (mi_range1 rfl z_range (ma_cons (mh_call h__law_take (hr.mono (by decide)) rfl (ma_cons (mv 0) (ma_cons (me_callB (cm_max2 rfl) rfl z_max bb_max (ma_cons me_int (ma_cons (me_bin om_div (mv 1) me_int) ma_nil))) ma_nil))) ma_nil)) (gv 3 sc__law_great.nd) (mss_one (ms_set 2 sc__law_great.nd (me_bin (om_add .pure) (me_bin (om_mul .pure) (mv 2) (me_bin om_pow me_int me_int)) (mh_call h__law_take (hr.mono (by decide)) rfl (ma_cons (mv 0) (ma_cons (me_bin om_pow me_int me_int) ma_nil)))))))
      (mss_one (ms_ret (mv 2))))))
/-! _law_fraction -/
abbrev s__law_fraction : Stmt := top 38
abbrev nm__law_fraction : List Str := ["box", "found", "way", "digits", "wide", "top", "base", "far"]
theorem sc__law_fraction : FnScope ["box", "found", "way", "digits", "wide", "top", "base", "far"] ["box", "found"] (defScope s__law_fraction) := ⟨rfl, rfl, rfl, by decide +kernel, rfl, by decide +kernel, by decide +kernel⟩
def b__law_fraction : MS :=
  (sSeq (sPar 2 3 (mCons (mCall m__law_take (mCons (mVar 0) (mCons (mC (.int 8)) mNil))) (mCons (mBin gIx (mList .pure (mCons (mC (.int 9)) (mCons (mC (.int 60)) (mCons (mC (.int 240)) mNil)))) (mCall m__law_take (mCons (mVar 0) (mCons (mC (.int 3)) mNil)))) mNil)))
  (sSeq (sIf (mAnd (mTest (mBin (gEq) (mVar 2) (mC (.int 0)))) (mTest (mBin (gNe) (mVar 1) (mList .pure mNil)))) (sRet (mCall m__law_pick (mCons (mVar 0) (mCons (mVar 1) mNil)))) sNil)
  (sSeq (sIf (mAnd (mTest (mBin (gInt iLt) (mVar 2) (mC (.int 3)))) (mTest (mBin (gNe) (mVar 1) (mList .pure mNil)))) (sSeq (sAsg (mCall m__law_pick (mCons (mVar 0) (mCons (mVar 1) mNil))) (mgTup 2 (mgCons (mgName 5) (mgCons (mgName 6) mgNil))))
  (sSeq (sAsg (mBin (gMul .pure) (mBin (gInt iPow) (mC (.int 10)) (mC (.int 60))) (mBin (gInt iPow) (mC (.int 10)) (mC (.int 60)))) (mgName 4))
  (sIf (mAnd (mTest (mBin (gInt iLt) (mVar 6) (mVar 4))) (mTest (mBin (gInt iLt) (mCall gAbs (mCons (mVar 5) mNil)) (mVar 4)))) (sSeq (sAsg (mBin (gAdd .pure) (mVar 4) (mCall m__law_take (mCons (mVar 0) (mCons (mC (.int 1000)) mNil)))) (mgName 7))
  (sRet (mCall m__law_low (mCons (mBin (gAdd .pure) (mBin (gMul .pure) (mVar 5) (mVar 7)) (mBin gIx (mList .pure (mCons (mC (.int 1)) (mCons (mUn gNeg (mC (.int 1))) mNil))) (mCall m__law_take (mCons (mVar 0) (mCons (mC (.int 2)) mNil))))) (mCons (mBin (gMul .pure) (mVar 6) (mVar 7)) mNil))))) sNil))) sNil)
  (sSeq (sIf (mTest (mBin (gEq) (mVar 2) (mC (.int 3)))) (sRet (mTup (mCons (mBin (gMul .pure) (mCall m__law_great (mCons (mVar 0) (mCons (mVar 3) mNil))) (mBin gIx (mList .pure (mCons (mC (.int 1)) (mCons (mUn gNeg (mC (.int 1))) mNil))) (mCall m__law_take (mCons (mVar 0) (mCons (mC (.int 2)) mNil))))) (mCons (mC (.int 1)) mNil)))) sNil)
  (sSeq (sIf (mTest (mBin (gEq) (mVar 2) (mC (.int 4)))) (sRet (mTup (mCons (mC (.int 0)) (mCons (mC (.int 1)) mNil)))) sNil)
  (sRet (mCall m__law_low (mCons (mBin (gMul .pure) (mCall m__law_great (mCons (mVar 0) (mCons (mVar 3) mNil))) (mBin gIx (mList .pure (mCons (mC (.int 1)) (mCons (mC (.int 1)) (mCons (mUn gNeg (mC (.int 1))) mNil)))) (mCall m__law_take (mCons (mVar 0) (mCons (mC (.int 3)) mNil))))) (mCons (mCall m__law_great (mCons (mVar 0) (mCons (mVar 3) mNil))) mNil)))))))))
def m__law_fraction : List W → Sto → Option (W × Sto) := runDef 8 2 false b__law_fraction
theorem ok__law_fraction {P : Program} {w : World} {K : PySem.W.Frag} {mg : Str → Option Value} {base : Heap} (D : DefT K mg "_law_fraction" s__law_fraction) (h__law_take : Has P w K mg base "_law_take" s__law_take ["box", "many"] 1 m__law_take) (h__law_pick : Has P w K mg base "_law_pick" s__law_pick ["box", "items"] 2 m__law_pick) (h__law_low : Has P w K mg base "_law_low" s__law_low ["top", "base"] 1 m__law_low) (h__law_great : Has P w K mg base "_law_great" s__law_great ["box", "digits"] 2 m__law_great) (z_abs : mg "abs" = none) : Has P w K mg base "_law_fraction" s__law_fraction ["box", "found"] 3 m__law_fraction :=
  has_def (N := nm__law_fraction) (ps := ["box", "found"]) (k := 2) (body := b__law_fraction) D sc__law_fraction (fun _ _ _ _ _ _ us hl => match us, hl with | [_, _], _ => rfl) (fun f cdv A outer s H E hr => (mss_cons (ms_par (ps_par (i := 2) (j := 3) rfl sc__law_fraction.nd rfl rfl (by decide) rfl rfl (ma_cons (mh_call h__law_take (hr.mono (by decide)) rfl (ma_cons (mv 0) (ma_cons me_int ma_nil))) (ma_cons (me_ix (me_list .pure (ma_cons me_int (ma_cons me_int (ma_cons me_int ma_nil)))) (mh_call h__law_take (hr.mono (by decide)) rfl (ma_cons (mv 0) (ma_cons me_int ma_nil))) (fun _ _ => rfl)) ma_nil)) (by rfl)))
      (mss_cons (ms_if (PW.pt (mw_and (mt_cmp (om_eq hr) (mv 2) me_int (nomark _)) (mw_and1 (mt_cmp (om_ne hr) (mv 1) (me_list .pure ma_nil) (nomark _))))) (mss_one (ms_ret (mh_call h__law_pick (hr.mono (by decide)) rfl (ma_cons (mv 0) (ma_cons (mv 1) ma_nil))))) mss_nil)
      (mss_cons (ms_if (PW.pt (mw_and (mt_cmp om_lt (mv 2) me_int (nomark _)) (mw_and1 (mt_cmp (om_ne hr) (mv 1) (me_list .pure ma_nil) (nomark _))))) (mss_cons (ms_asg (mh_call h__law_pick (hr.mono (by decide)) rfl (ma_cons (mv 0) (ma_cons (mv 1) ma_nil))) (mg_tup rfl (mgs_cons (gv 5 sc__law_fraction.nd) (mgs_cons (gv 6 sc__law_fraction.nd) mgs_nil))))
      (mss_cons (ms_set 4 sc__law_fraction.nd (me_bin (om_mul .pure) (me_bin om_pow me_int me_int) (me_bin om_pow me_int me_int)))
      (mss_one (ms_if (PW.pt (mw_and (mt_cmp om_lt (mv 6) (mv 4) (nomark _)) (mw_and1 (mt_cmp om_lt (me_callB cm_abs rfl z_abs bb_abs (ma_cons (mv 5) ma_nil)) (mv 4) (nomark _))))) (mss_cons (ms_set 7 sc__law_fraction.nd (me_bin (om_add .pure) (mv 4) (mh_call h__law_take (hr.mono (by decide)) rfl (ma_cons (mv 0) (ma_cons me_int ma_nil)))))
      (mss_one (ms_ret (mh_call h__law_low (hr.mono (by decide)) rfl (ma_cons (me_bin (om_add .pure) (me_bin (om_mul .pure) (mv 5) (mv 7)) (me_ix (me_list .pure (ma_cons me_int (ma_cons (me_neg me_int) ma_nil))) (mh_call h__law_take (hr.mono (by decide)) rfl (ma_cons (mv 0) (ma_cons me_int ma_nil))) (fun _ _ => rfl))) (ma_cons (me_bin (om_mul .pure) (mv 6) (mv 7)) ma_nil)))))) mss_nil)))) mss_nil)
      (mss_cons (ms_if (mt_cmp (om_eq hr) (mv 2) me_int (nomark _)) (mss_one (ms_ret (me_tup (ma_cons (me_bin (om_mul .pure) (mh_call h__law_great (hr.mono (by decide)) rfl (ma_cons (mv 0) (ma_cons (mv 3) ma_nil))) (me_ix (me_list .pure (ma_cons me_int (ma_cons (me_neg me_int) ma_nil))) (mh_call h__law_take (hr.mono (by decide)) rfl (ma_cons (mv 0) (ma_cons me_int ma_nil))) (fun _ _ => rfl))) (ma_cons me_int ma_nil))))) mss_nil)
      (mss_cons (ms_if (mt_cmp (om_eq hr) (mv 2) me_int (nomark _)) (mss_one (ms_ret (me_tup (ma_cons me_int (ma_cons me_int ma_nil))))) mss_nil)
      (mss_one (ms_ret (mh_call h__law_low (hr.mono (by decide)) rfl (ma_cons (me_bin (om_mul .pure) (mh_call h__law_great (hr.mono (by decide)) rfl (ma_cons (mv 0) (ma_cons (mv 3) ma_nil))) (me_ix (me_list .pure (ma_cons me_int (ma_cons me_int (ma_cons (me_neg me_int) ma_nil)))) (mh_call h__law_take (hr.mono (by decide)) rfl (ma_cons (mv 0) (ma_cons me_int ma_nil))) (fun _ _ => rfl))) (ma_cons (mh_call h__law_great (hr.mono (by decide)) rfl (ma_cons (mv 0) (ma_cons (mv 3) ma_nil))) ma_nil)))))))))))
/-! _law_over -/
abbrev s__law_over : Stmt := top 39
abbrev nm__law_over : List Str := ["one", "other"]
theorem sc__law_over : FnScope ["one", "other"] ["one", "other"] (defScope s__law_over) := ⟨rfl, rfl, rfl, by decide +kernel, rfl, by decide +kernel, by decide +kernel⟩
def b__law_over : MS :=
  (sRet (mCall m__law_low (mCons (mBin (gMul .pure) (mBin gIx (mVar 0) (mC (.int 0))) (mBin gIx (mVar 1) (mC (.int 1)))) (mCons (mBin (gMul .pure) (mBin gIx (mVar 0) (mC (.int 1))) (mBin gIx (mVar 1) (mC (.int 0)))) mNil))))
def m__law_over : List W → Sto → Option (W × Sto) := callP (runPure 2 2 b__law_over)
theorem ok__law_over {P : Program} {w : World} {K : PySem.W.Frag} {mg : Str → Option Value} {base : Heap} (D : DefT K mg "_law_over" s__law_over) (h__law_low : Has P w K mg base "_law_low" s__law_low ["top", "base"] 1 m__law_low) : Has P w K mg base "_law_over" s__law_over ["one", "other"] 2 m__law_over :=
  has_pure (N := nm__law_over) (ps := ["one", "other"]) (k := 1) (body := b__law_over) D sc__law_over (fun _ _ _ _ _ _ us hl => match us, hl with | [_, _], _ => rfl) (fun f cdv A outer s H E hr => (mss_one (ms_ret (mh_call h__law_low (hr.mono (by decide)) rfl (ma_cons (me_bin (om_mul .pure) (me_ix (mv 0) me_int (fun _ _ => rfl)) (me_ix (mv 1) me_int (fun _ _ => rfl))) (ma_cons (me_bin (om_mul .pure) (me_ix (mv 0) me_int (fun _ _ => rfl)) (me_ix (mv 1) me_int (fun _ _ => rfl))) ma_nil))))))
/-! _law_order -/
abbrev s__law_order : Stmt := top 40
abbrev nm__law_order : List Str := ["one", "other"]
theorem sc__law_order : FnScope ["one", "other"] ["one", "other"] (defScope s__law_order) := ⟨rfl, rfl, rfl, by decide +kernel, rfl, by decide +kernel, by decide +kernel⟩
def b__law_order : MS :=
  (sRet (mBin (gInt iSub) (mCall gToInt (mCons (mCall m__law_under (mCons (mVar 1) (mCons (mVar 0) mNil))) mNil)) (mCall gToInt (mCons (mCall m__law_under (mCons (mVar 0) (mCons (mVar 1) mNil))) mNil))))
def m__law_order : List W → Sto → Option (W × Sto) := callP (runPure 2 2 b__law_order)
theorem ok__law_order {P : Program} {w : World} {K : PySem.W.Frag} {mg : Str → Option Value} {base : Heap} (D : DefT K mg "_law_order" s__law_order) (h__law_under : Has P w K mg base "_law_under" s__law_under ["one", "other"] 1 m__law_under) (z_int : mg "int" = none) : Has P w K mg base "_law_order" s__law_order ["one", "other"] 2 m__law_order :=
  has_pure (N := nm__law_order) (ps := ["one", "other"]) (k := 1) (body := b__law_order) D sc__law_order (fun _ _ _ _ _ _ us hl => match us, hl with | [_, _], _ => rfl) (fun f cdv A outer s H E hr => (mss_one (ms_ret (me_bin om_sub (me_callTy cm_int rfl z_int bb_int (ma_cons (mh_call h__law_under (hr.mono (by decide)) rfl (ma_cons (mv 1) (ma_cons (mv 0) ma_nil))) ma_nil)) (me_callTy cm_int rfl z_int bb_int (ma_cons (mh_call h__law_under (hr.mono (by decide)) rfl (ma_cons (mv 0) (ma_cons (mv 1) ma_nil))) ma_nil))))))
/-! _law_two_right -/
abbrev s__law_two_right : Stmt := top 41
abbrev nm__law_two_right : List Str := ["one", "other", "by_name", "due", "told"]
theorem sc__law_two_right : FnScope ["one", "other", "by_name", "due", "told"] ["one", "other", "by_name"] (defScope s__law_two_right) := ⟨rfl, rfl, rfl, by decide +kernel, rfl, by decide +kernel, by decide +kernel⟩
def b__law_two_right : MS :=
  (sSeq (sAsg (mList .pure (mCons (mCall m__law_add (mCons (mVar 0) (mCons (mVar 1) mNil))) (mCons (mCall m__law_less (mCons (mVar 0) (mCons (mVar 1) mNil))) (mCons (mCall m__law_times (mCons (mVar 0) (mCons (mVar 1) mNil))) (mCons (mCall m__law_order (mCons (mVar 0) (mCons (mVar 1) mNil))) mNil))))) (mgName 3))
  (sSeq (sIf (mTest (mVar 2)) (sAsg (mList .pure (mCons (mCallK m_plus [1, 0] 0 2 mNil (mCons (mVar 1) (mCons (mVar 0) mNil))) (mCons (mCallK m_minus [1, 0] 0 2 mNil (mCons (mVar 1) (mCons (mVar 0) mNil))) (mCons (mCallK m_times [1, 0] 0 2 mNil (mCons (mVar 1) (mCons (mVar 0) mNil))) (mCons (mCallK m_compared [1, 0] 0 2 mNil (mCons (mVar 1) (mCons (mVar 0) mNil))) mNil))))) (mgName 4)) (sAsg (mList .pure (mCons (mCall m_plus (mCons (mVar 0) (mCons (mVar 1) mNil))) (mCons (mCall m_minus (mCons (mVar 0) (mCons (mVar 1) mNil))) (mCons (mCall m_times (mCons (mVar 0) (mCons (mVar 1) mNil))) (mCons (mCall m_compared (mCons (mVar 0) (mCons (mVar 1) mNil))) mNil))))) (mgName 4)))
  (sSeq (sIf (mNot (mTest (mCall (m__law_same 4) (mCons (mVar 4) (mCons (mVar 3) mNil))))) (sRet (mC (.bl false))) sNil)
  (sSeq (sIf (mAnd (mTest (mBin (gNe) (mBin gIx (mVar 1) (mC (.int 0))) (mC (.int 0)))) (mNot (mTest (mCall (m__law_same 4) (mCons (mIf (mTest (mVar 2)) (mCallK m_over [1, 0] 0 2 mNil (mCons (mVar 1) (mCons (mVar 0) mNil))) (mCall m_over (mCons (mVar 0) (mCons (mVar 1) mNil)))) (mCons (mCall m__law_over (mCons (mVar 0) (mCons (mVar 1) mNil))) mNil)))))) (sRet (mC (.bl false))) sNil)
  (sRet (mCall (m__law_same 4) (mCons (mList .pure (mCons (mCall m_is_fraction (mCons (mVar 0) mNil)) (mCons (mIf (mTest (mVar 2)) (mCallK m_is_chance [0] 0 1 mNil (mCons (mVar 0) mNil)) (mCall m_is_chance (mCons (mVar 0) mNil))) mNil))) (mCons (mList .pure (mCons (mC (.bl true)) (mCons (mChain (gInt iLe) (gInt iLe) (mC (.int 0)) (mBin gIx (mVar 0) (mC (.int 0))) (mBin gIx (mVar 0) (mC (.int 1)))) mNil))) mNil))))))))
def m__law_two_right : List W → Sto → Option (W × Sto) := callP (runPure 5 3 b__law_two_right)
theorem ok__law_two_right {P : Program} {w : World} {K : PySem.W.Frag} {mg : Str → Option Value} {base : Heap} (D : DefT K mg "_law_two_right" s__law_two_right) (h__law_add : Has P w K mg base "_law_add" s__law_add ["one", "other"] 2 m__law_add) (h__law_less : Has P w K mg base "_law_less" s__law_less ["one", "other"] 2 m__law_less) (h__law_times : Has P w K mg base "_law_times" s__law_times ["one", "other"] 2 m__law_times) (h__law_order : Has P w K mg base "_law_order" s__law_order ["one", "other"] 2 m__law_order) (h_plus : Has P w K mg base "plus" s_plus ["one", "other"] 5 m_plus) (h_minus : Has P w K mg base "minus" s_minus ["one", "other"] 5 m_minus) (h_times : Has P w K mg base "times" s_times ["one", "other"] 5 m_times) (h_compared : Has P w K mg base "compared" s_compared ["one", "other"] 5 m_compared) (h__law_same : Has P w K mg base "_law_same" s__law_same ["given", "due"] 4 (m__law_same 4)) (h_over : Has P w K mg base "over" s_over ["one", "other"] 5 m_over) (h__law_over : Has P w K mg base "_law_over" s__law_over ["one", "other"] 2 m__law_over) (h_is_fraction : Has P w K mg base "is_fraction" s_is_fraction ["value"] 2 m_is_fraction) (h_is_chance : Has P w K mg base "is_chance" s_is_chance ["value"] 3 m_is_chance) : Has P w K mg base "_law_two_right" s__law_two_right ["one", "other", "by_name"] 6 m__law_two_right :=
  has_pure (N := nm__law_two_right) (ps := ["one", "other", "by_name"]) (k := 5) (body := b__law_two_right) D sc__law_two_right (fun _ _ _ _ _ _ us hl => match us, hl with | [_, _, _], _ => rfl) (fun f cdv A outer s H E hr => (mss_cons (ms_set 3 sc__law_two_right.nd (me_list .pure (ma_cons (mh_call h__law_add (hr.mono (by decide)) rfl (ma_cons (mv 0) (ma_cons (mv 1) ma_nil))) (ma_cons (mh_call h__law_less (hr.mono (by decide)) rfl (ma_cons (mv 0) (ma_cons (mv 1) ma_nil))) (ma_cons (mh_call h__law_times (hr.mono (by decide)) rfl (ma_cons (mv 0) (ma_cons (mv 1) ma_nil))) (ma_cons (mh_call h__law_order (hr.mono (by decide)) rfl (ma_cons (mv 0) (ma_cons (mv 1) ma_nil))) ma_nil))))))
      (mss_cons (ms_if (mt_val (mv 2)) (mss_one (ms_set 4 sc__law_two_right.nd (me_list .pure (ma_cons (mh_callK0 (b := 2) (is := [1, 0]) h_plus (hr.mono (by decide)) rfl (by decide) (fun _ _ _ _ _ _ us ws h1 h2 => match us, ws, h1, h2 with | [], [_, _], _, _ => rfl) (mk_cons (mv 1) (mk_cons (mv 0) mk_nil))) (ma_cons (mh_callK0 (b := 2) (is := [1, 0]) h_minus (hr.mono (by decide)) rfl (by decide) (fun _ _ _ _ _ _ us ws h1 h2 => match us, ws, h1, h2 with | [], [_, _], _, _ => rfl) (mk_cons (mv 1) (mk_cons (mv 0) mk_nil))) (ma_cons (mh_callK0 (b := 2) (is := [1, 0]) h_times (hr.mono (by decide)) rfl (by decide) (fun _ _ _ _ _ _ us ws h1 h2 => match us, ws, h1, h2 with | [], [_, _], _, _ => rfl) (mk_cons (mv 1) (mk_cons (mv 0) mk_nil))) (ma_cons (mh_callK0 (b := 2) (is := [1, 0]) h_compared (hr.mono (by decide)) rfl (by decide) (fun _ _ _ _ _ _ us ws h1 h2 => match us, ws, h1, h2 with | [], [_, _], _, _ => rfl) (mk_cons (mv 1) (mk_cons (mv 0) mk_nil))) ma_nil))))))) (mss_one (ms_set 4 sc__law_two_right.nd (me_list .pure (ma_cons (mh_call h_plus (hr.mono (by decide)) rfl (ma_cons (mv 0) (ma_cons (mv 1) ma_nil))) (ma_cons (mh_call h_minus (hr.mono (by decide)) rfl (ma_cons (mv 0) (ma_cons (mv 1) ma_nil))) (ma_cons (mh_call h_times (hr.mono (by decide)) rfl (ma_cons (mv 0) (ma_cons (mv 1) ma_nil))) (ma_cons (mh_call h_compared (hr.mono (by decide)) rfl (ma_cons (mv 0) (ma_cons (mv 1) ma_nil))) ma_nil))))))))
      (mss_cons (ms_if (mt_not (mt_val (mh_call h__law_same (hr.mono (by decide)) rfl (ma_cons (mv 4) (ma_cons (mv 3) ma_nil))))) (mss_one (ms_ret me_bl)) mss_nil)
      (mss_cons (ms_if (PW.pt (mw_and (mt_cmp (om_ne hr) (me_ix (mv 1) me_int (fun _ _ => rfl)) me_int (nomark _)) (mw_and1 (mt_not (mt_val (mh_call h__law_same (hr.mono (by decide)) rfl (ma_cons (me_if (mt_val (mv 2)) (mh_callK0 (b := 2) (is := [1, 0]) h_over (hr.mono (by decide)) rfl (by decide) (fun _ _ _ _ _ _ us ws h1 h2 => match us, ws, h1, h2 with | [], [_, _], _, _ => rfl) (mk_cons (mv 1) (mk_cons (mv 0) mk_nil))) (mh_call h_over (hr.mono (by decide)) rfl (ma_cons (mv 0) (ma_cons (mv 1) ma_nil)))) (ma_cons (mh_call h__law_over (hr.mono (by decide)) rfl (ma_cons (mv 0) (ma_cons (mv 1) ma_nil))) ma_nil)))))))) (mss_one (ms_ret me_bl)) mss_nil)
      (mss_one (ms_ret (mh_call h__law_same (hr.mono (by decide)) rfl (ma_cons (me_list .pure (ma_cons (mh_call h_is_fraction (hr.mono (by decide)) rfl (ma_cons (mv 0) ma_nil)) (ma_cons (me_if (mt_val (mv 2)) (mh_callK0 (b := 1) (is := [0]) h_is_chance (hr.mono (by decide)) rfl (by decide) (fun _ _ _ _ _ _ us ws h1 h2 => match us, ws, h1, h2 with | [], [_], _, _ => rfl) (mk_cons (mv 0) mk_nil)) (mh_call h_is_chance (hr.mono (by decide)) rfl (ma_cons (mv 0) ma_nil))) ma_nil))) (ma_cons (me_list .pure (ma_cons me_bl (ma_cons (me_chain om_le om_le me_int (me_ix (mv 0) me_int (fun _ _ => rfl)) (me_ix (mv 0) me_int (fun _ _ => rfl))) ma_nil))) ma_nil))))))))))
/-! _law_three_right -/
abbrev s__law_three_right : Stmt := top 42
abbrev nm__law_three_right : List Str := ["a", "b", "c", "by_name", "due", "told", "order", "side"]
theorem sc__law_three_right : FnScope ["a", "b", "c", "by_name", "due", "told", "order", "side"] ["a", "b", "c", "by_name"] (defScope s__law_three_right) := ⟨rfl, rfl, rfl, by decide +kernel, rfl, by decide +kernel, by decide +kernel⟩
def b__law_three_right : MS :=
  (sSeq (sAsg (mCall m__law_times (mCons (mCall m__law_add (mCons (mVar 0) (mCons (mVar 1) mNil))) (mCons (mVar 2) mNil))) (mgName 4))
  (sSeq (sAsg (mList .pure (mCons (mCall m_times (mCons (mCall m_plus (mCons (mVar 0) (mCons (mVar 1) mNil))) (mCons (mVar 2) mNil))) (mCons (mCall m_plus (mCons (mCall m_times (mCons (mVar 0) (mCons (mVar 2) mNil))) (mCons (mCall m_times (mCons (mVar 1) (mCons (mVar 2) mNil))) mNil))) (mCons (mCall m_minus (mCons (mCall m_plus (mCons (mVar 0) (mCons (mVar 2) mNil))) (mCons (mCall m_minus (mCons (mVar 2) (mCons (mVar 1) mNil))) mNil))) mNil)))) (mgName 5))
  (sSeq (sIf (mTest (mVar 3)) (sAsg (mList .pure (mCons (mCallK m_times [0, 1] 0 2 mNil (mCons (mCallK m_plus [0, 1] 0 2 mNil (mCons (mVar 0) (mCons (mVar 1) mNil))) (mCons (mVar 2) mNil))) (mCons (mCallK m_plus [0, 1] 0 2 mNil (mCons (mCall m_times (mCons (mVar 0) (mCons (mVar 2) mNil))) (mCons (mCall m_times (mCons (mVar 1) (mCons (mVar 2) mNil))) mNil))) (mCons (mCallK m_minus [1, 0] 0 2 mNil (mCons (mCall m_minus (mCons (mVar 2) (mCons (mVar 1) mNil))) (mCons (mCall m_plus (mCons (mVar 0) (mCons (mVar 2) mNil))) mNil))) mNil)))) (mgName 5)) sNil)
  (sSeq (sIf (mNot (mTest (mCall (m__law_same 4) (mCons (mVar 5) (mCons (mList .pure (mCons (mVar 4) (mCons (mVar 4) (mCons (mCall m__law_add (mCons (mVar 0) (mCons (mVar 1) mNil))) mNil)))) mNil))))) (sRet (mC (.bl false))) sNil)
  (sSeq (sPar 6 7 (mCons (mCall m__law_order (mCons (mVar 0) (mCons (mVar 1) mNil))) (mCons (mBin (gInt iSub) (mCall gToInt (mCons (mBin (gInt iGt) (mBin gIx (mVar 2) (mC (.int 0))) (mC (.int 0))) mNil)) (mCall gToInt (mCons (mBin (gInt iLt) (mBin gIx (mVar 2) (mC (.int 0))) (mC (.int 0))) mNil))) mNil)))
  (sRet (mCall (m__law_same 4) (mCons (mList .pure (mCons (mCall m_compared (mCons (mCall m_plus (mCons (mVar 0) (mCons (mVar 2) mNil))) (mCons (mCall m_plus (mCons (mVar 1) (mCons (mVar 2) mNil))) mNil))) (mCons (mCall m_compared (mCons (mCall m_times (mCons (mVar 0) (mCons (mVar 2) mNil))) (mCons (mCall m_times (mCons (mVar 1) (mCons (mVar 2) mNil))) mNil))) mNil))) (mCons (mList .pure (mCons (mVar 6) (mCons (mBin (gMul .pure) (mVar 6) (mVar 7)) mNil))) mNil)))))))))
def m__law_three_right : List W → Sto → Option (W × Sto) := callP (runPure 8 4 b__law_three_right)
theorem ok__law_three_right {P : Program} {w : World} {K : PySem.W.Frag} {mg : Str → Option Value} {base : Heap} (D : DefT K mg "_law_three_right" s__law_three_right) (h__law_times : Has P w K mg base "_law_times" s__law_times ["one", "other"] 2 m__law_times) (h__law_add : Has P w K mg base "_law_add" s__law_add ["one", "other"] 2 m__law_add) (h_times : Has P w K mg base "times" s_times ["one", "other"] 5 m_times) (h_plus : Has P w K mg base "plus" s_plus ["one", "other"] 5 m_plus) (h_minus : Has P w K mg base "minus" s_minus ["one", "other"] 5 m_minus) (h__law_same : Has P w K mg base "_law_same" s__law_same ["given", "due"] 4 (m__law_same 4)) (h__law_order : Has P w K mg base "_law_order" s__law_order ["one", "other"] 2 m__law_order) (h_compared : Has P w K mg base "compared" s_compared ["one", "other"] 5 m_compared) (z_int : mg "int" = none) : Has P w K mg base "_law_three_right" s__law_three_right ["a", "b", "c", "by_name"] 6 m__law_three_right :=
  has_pure (N := nm__law_three_right) (ps := ["a", "b", "c", "by_name"]) (k := 5) (body := b__law_three_right) D sc__law_three_right (fun _ _ _ _ _ _ us hl => match us, hl with | [_, _, _, _], _ => rfl) (fun f cdv A outer s H E hr => (mss_cons (ms_set 4 sc__law_three_right.nd (mh_call h__law_times (hr.mono (by decide)) rfl (ma_cons (mh_call h__law_add (hr.mono (by decide)) rfl (ma_cons (mv 0) (ma_cons (mv 1) ma_nil))) (ma_cons (mv 2) ma_nil))))
      (mss_cons (ms_set 5 sc__law_three_right.nd (me_list .pure (ma_cons (mh_call h_times (hr.mono (by decide)) rfl (ma_cons (mh_call h_plus (hr.mono (by decide)) rfl (ma_cons (mv 0) (ma_cons (mv 1) ma_nil))) (ma_cons (mv 2) ma_nil))) (ma_cons (mh_call h_plus (hr.mono (by decide)) rfl (ma_cons (mh_call h_times (hr.mono (by decide)) rfl (ma_cons (mv 0) (ma_cons (mv 2) ma_nil))) (ma_cons (mh_call h_times (hr.mono (by decide)) rfl (ma_cons (mv 1) (ma_cons (mv 2) ma_nil))) ma_nil))) (ma_cons (mh_call h_minus (hr.mono (by decide)) rfl (ma_cons (mh_call h_plus (hr.mono (by decide)) rfl (ma_cons (mv 0) (ma_cons (mv 2) ma_nil))) (ma_cons (mh_call h_minus (hr.mono (by decide)) rfl (ma_cons (mv 2) (ma_cons (mv 1) ma_nil))) ma_nil))) ma_nil)))))
      (mss_cons (ms_if (mt_val (mv 3)) (mss_one (ms_set 5 sc__law_three_right.nd (me_list .pure (ma_cons (mh_callK0 (b := 2) (is := [0, 1]) h_times (hr.mono (by decide)) rfl (by decide) (fun _ _ _ _ _ _ us ws h1 h2 => match us, ws, h1, h2 with | [], [_, _], _, _ => rfl) (mk_cons (mh_callK0 (b := 2) (is := [0, 1]) h_plus (hr.mono (by decide)) rfl (by decide) (fun _ _ _ _ _ _ us ws h1 h2 => match us, ws, h1, h2 with | [], [_, _], _, _ => rfl) (mk_cons (mv 0) (mk_cons (mv 1) mk_nil))) (mk_cons (mv 2) mk_nil))) (ma_cons (mh_callK0 (b := 2) (is := [0, 1]) h_plus (hr.mono (by decide)) rfl (by decide) (fun _ _ _ _ _ _ us ws h1 h2 => match us, ws, h1, h2 with | [], [_, _], _, _ => rfl) (mk_cons (mh_call h_times (hr.mono (by decide)) rfl (ma_cons (mv 0) (ma_cons (mv 2) ma_nil))) (mk_cons (mh_call h_times (hr.mono (by decide)) rfl (ma_cons (mv 1) (ma_cons (mv 2) ma_nil))) mk_nil))) (ma_cons (mh_callK0 (b := 2) (is := [1, 0]) h_minus (hr.mono (by decide)) rfl (by decide) (fun _ _ _ _ _ _ us ws h1 h2 => match us, ws, h1, h2 with | [], [_, _], _, _ => rfl) (mk_cons (mh_call h_minus (hr.mono (by decide)) rfl (ma_cons (mv 2) (ma_cons (mv 1) ma_nil))) (mk_cons (mh_call h_plus (hr.mono (by decide)) rfl (ma_cons (mv 0) (ma_cons (mv 2) ma_nil))) mk_nil))) ma_nil)))))) mss_nil)
      (mss_cons (ms_if (mt_not (mt_val (mh_call h__law_same (hr.mono (by decide)) rfl (ma_cons (mv 5) (ma_cons (me_list .pure (ma_cons (mv 4) (ma_cons (mv 4) (ma_cons (mh_call h__law_add (hr.mono (by decide)) rfl (ma_cons (mv 0) (ma_cons (mv 1) ma_nil))) ma_nil)))) ma_nil))))) (mss_one (ms_ret me_bl)) mss_nil)
      (mss_cons (ms_par (ps_par (i := 6) (j := 7) rfl sc__law_three_right.nd rfl rfl (by decide) rfl rfl (ma_cons (mh_call h__law_order (hr.mono (by decide)) rfl (ma_cons (mv 0) (ma_cons (mv 1) ma_nil))) (ma_cons (me_bin om_sub (me_callTy cm_int rfl z_int bb_int (ma_cons (me_cmp om_gt (me_ix (mv 2) me_int (fun _ _ => rfl)) me_int (nomark _)) ma_nil)) (me_callTy cm_int rfl z_int bb_int (ma_cons (me_cmp om_lt (me_ix (mv 2) me_int (fun _ _ => rfl)) me_int (nomark _)) ma_nil))) ma_nil)) (by rfl)))
      (mss_one (ms_ret (mh_call h__law_same (hr.mono (by decide)) rfl (ma_cons (me_list .pure (ma_cons (mh_call h_compared (hr.mono (by decide)) rfl (ma_cons (mh_call h_plus (hr.mono (by decide)) rfl (ma_cons (mv 0) (ma_cons (mv 2) ma_nil))) (ma_cons (mh_call h_plus (hr.mono (by decide)) rfl (ma_cons (mv 1) (ma_cons (mv 2) ma_nil))) ma_nil))) (ma_cons (mh_call h_compared (hr.mono (by decide)) rfl (ma_cons (mh_call h_times (hr.mono (by decide)) rfl (ma_cons (mv 0) (ma_cons (mv 2) ma_nil))) (ma_cons (mh_call h_times (hr.mono (by decide)) rfl (ma_cons (mv 1) (ma_cons (mv 2) ma_nil))) ma_nil))) ma_nil))) (ma_cons (me_list .pure (ma_cons (mv 6) (ma_cons (me_bin (om_mul .pure) (mv 6) (mv 7)) ma_nil))) ma_nil)))))))))))
/-! _law_rows_right -/
abbrev s__law_rows_right : Stmt := top 43
abbrev nm__law_rows_right : List Str := ["box", "some", "by_name", "one", "turn", "total", "product", "here", "there"]
theorem sc__law_rows_right : FnScope ["box", "some", "by_name", "one", "turn", "total", "product", "here", "there"] ["box", "some", "by_name"] (defScope s__law_rows_right) := ⟨rfl, rfl, rfl, by decide +kernel, rfl, by decide +kernel, by decide +kernel⟩
def b__law_rows_right : MS :=
  (sSeq (sAsg (mTup (mCons (mTup (mCons (mC (.int 0)) (mCons (mC (.int 1)) mNil))) (mCons (mTup (mCons (mC (.int 1)) (mCons (mC (.int 1)) mNil))) mNil))) (mgTup 2 (mgCons (mgName 5) (mgCons (mgName 6) mgNil))))
  (sSeq (sFor (miSeq (mVar 1)) (mgName 3) (sPar 5 6 (mCons (mCall m__law_add (mCons (mVar 5) (mCons (mVar 3) mNil))) (mCons (mCall m__law_times (mCons (mVar 6) (mCons (mVar 3) mNil))) mNil))))
  (sSeq (sFor (miRange1 (mCons (mC (.int 2)) mNil)) (mgName 4) (sSeq (sAsg (mTup (mCons (mTup (mCons (mC (.int 0)) (mCons (mC (.int 1)) mNil))) (mCons (mTup (mCons (mC (.int 1)) (mCons (mC (.int 1)) mNil))) mNil))) (mgTup 2 (mgCons (mgName 7) (mgCons (mgName 8) mgNil))))
  (sSeq (sFor (miSeq (mCall m__law_mixed (mCons (mVar 0) (mCons (mVar 1) mNil)))) (mgName 3) (sPar 7 8 (mCons (mIf (mTest (mVar 2)) (mCall m_plus (mCons (mVar 7) (mCons (mVar 3) mNil))) (mCall m_plus (mCons (mVar 3) (mCons (mVar 7) mNil)))) (mCons (mIf (mTest (mVar 2)) (mCall m_times (mCons (mVar 8) (mCons (mVar 3) mNil))) (mCall m_times (mCons (mVar 3) (mCons (mVar 8) mNil)))) mNil))))
  (sSeq (sIf (mNot (mTest (mCall (m__law_same 4) (mCons (mList .pure (mCons (mVar 7) (mCons (mVar 8) mNil))) (mCons (mList .pure (mCons (mVar 5) (mCons (mVar 6) mNil))) mNil))))) (sRet (mC (.bl false))) sNil)
  (sAsg (mNotV (mVar 2)) (mgName 2))))))
  (sSeq (sFor (miSeq (mUn (gRev .pure) (mVar 1))) (mgName 3) (sIf (mAnd (mTest (mBin (gNe) (mBin gIx (mVar 3) (mC (.int 0))) (mC (.int 0)))) (mTest (mBin (gNe) (mBin gIx (mVar 6) (mC (.int 0))) (mC (.int 0))))) (sSeq (sAsg (mCall m__law_over (mCons (mVar 6) (mCons (mVar 3) mNil))) (mgName 6))
  (sSeq (sAsg (mCall m_over (mCons (mVar 8) (mCons (mVar 3) mNil))) (mgName 8))
  (sIf (mNot (mTest (mCall (m__law_same 4) (mCons (mVar 8) (mCons (mVar 6) mNil))))) (sRet (mC (.bl false))) sNil))) sNil))
  (sRet (mC (.bl true)))))))
def m__law_rows_right : List W → Sto → Option (W × Sto) := runDef 9 3 false b__law_rows_right
theorem ok__law_rows_right {P : Program} {w : World} {K : PySem.W.Frag} {mg : Str → Option Value} {base : Heap} (D : DefT K mg "_law_rows_right" s__law_rows_right) (h__law_add : Has P w K mg base "_law_add" s__law_add ["one", "other"] 2 m__law_add) (h__law_times : Has P w K mg base "_law_times" s__law_times ["one", "other"] 2 m__law_times) (h__law_mixed : Has P w K mg base "_law_mixed" s__law_mixed ["box", "items"] 2 m__law_mixed) (h_plus : Has P w K mg base "plus" s_plus ["one", "other"] 5 m_plus) (h_times : Has P w K mg base "times" s_times ["one", "other"] 5 m_times) (h__law_same : Has P w K mg base "_law_same" s__law_same ["given", "due"] 4 (m__law_same 4)) (h__law_over : Has P w K mg base "_law_over" s__law_over ["one", "other"] 2 m__law_over) (h_over : Has P w K mg base "over" s_over ["one", "other"] 5 m_over) (z_range : mg "range" = none) : Has P w K mg base "_law_rows_right" s__law_rows_right ["box", "some", "by_name"] 6 m__law_rows_right :=
  has_def (N := nm__law_rows_right) (ps := ["box", "some", "by_name"]) (k := 5) (body := b__law_rows_right) D sc__law_rows_right (fun _ _ _ _ _ _ us hl => match us, hl with | [_, _, _], _ => rfl) (fun f cdv A outer s H E hr => (mss_cons (ms_asg (me_tup (ma_cons (me_tup (ma_cons me_int (ma_cons me_int ma_nil))) (ma_cons (me_tup (ma_cons me_int (ma_cons me_int ma_nil))) ma_nil))) (mg_tup rfl (mgs_cons (gv 5 sc__law_rows_right.nd) (mgs_cons (gv 6 sc__law_rows_right.nd) mgs_nil))))
      (mss_cons (ms_for PassesOwn.never rfl (mi_seq (mv 1)) (gv 3 sc__law_rows_right.nd) (mss_one (ms_par (ps_par (i := 5) (j := 6) rfl sc__law_rows_right.nd rfl rfl (by decide) rfl rfl (ma_cons (mh_call h__law_add (hr.mono (by decide)) rfl (ma_cons (mv 5) (ma_cons (mv 3) ma_nil))) (ma_cons (mh_call h__law_times (hr.mono (by decide)) rfl (ma_cons (mv 6) (ma_cons (mv 3) ma_nil))) ma_nil)) (by rfl)))))
      (mss_cons (ms_for PassesOwn.never rfl (mi_range1 rfl z_range (ma_cons me_int ma_nil)) (gv 4 sc__law_rows_right.nd) (mss_cons (ms_asg (me_tup (ma_cons (me_tup (ma_cons me_int (ma_cons me_int ma_nil))) (ma_cons (me_tup (ma_cons me_int (ma_cons me_int ma_nil))) ma_nil))) (mg_tup rfl (mgs_cons (gv 7 sc__law_rows_right.nd) (mgs_cons (gv 8 sc__law_rows_right.nd) mgs_nil))))
      (mss_cons (ms_for PassesOwn.never rfl (mi_seq (mh_call h__law_mixed (hr.mono (by decide)) rfl (ma_cons (mv 0) (ma_cons (mv 1) ma_nil)))) (gv 3 sc__law_rows_right.nd) (mss_one (ms_par (ps_par (i := 7) (j := 8) rfl sc__law_rows_right.nd rfl rfl (by decide) rfl rfl (ma_cons (me_if (mt_val (mv 2)) (mh_call h_plus (hr.mono (by decide)) rfl (ma_cons (mv 7) (ma_cons (mv 3) ma_nil))) (mh_call h_plus (hr.mono (by decide)) rfl (ma_cons (mv 3) (ma_cons (mv 7) ma_nil)))) (ma_cons (me_if (mt_val (mv 2)) (mh_call h_times (hr.mono (by decide)) rfl (ma_cons (mv 8) (ma_cons (mv 3) ma_nil))) (mh_call h_times (hr.mono (by decide)) rfl (ma_cons (mv 3) (ma_cons (mv 8) ma_nil)))) ma_nil)) (by rfl)))))
      (mss_cons (ms_if (mt_not (mt_val (mh_call h__law_same (hr.mono (by decide)) rfl (ma_cons (me_list .pure (ma_cons (mv 7) (ma_cons (mv 8) ma_nil))) (ma_cons (me_list .pure (ma_cons (mv 5) (ma_cons (mv 6) ma_nil))) ma_nil))))) (mss_one (ms_ret me_bl)) mss_nil)
      (mss_one (ms_set 2 sc__law_rows_right.nd (me_not (mv 2))))))))
      (mss_cons (ms_for PassesOwn.never rfl (mi_seq (me_rev .pure (mv 1))) (gv 3 sc__law_rows_right.nd) (mss_one (ms_if (PW.pt (mw_and (mt_cmp (om_ne hr) (me_ix (mv 3) me_int (fun _ _ => rfl)) me_int (nomark _)) (mw_and1 (mt_cmp (om_ne hr) (me_ix (mv 6) me_int (fun _ _ => rfl)) me_int (nomark _))))) (mss_cons (ms_set 6 sc__law_rows_right.nd (mh_call h__law_over (hr.mono (by decide)) rfl (ma_cons (mv 6) (ma_cons (mv 3) ma_nil))))
      (mss_cons (ms_set 8 sc__law_rows_right.nd (mh_call h_over (hr.mono (by decide)) rfl (ma_cons (mv 8) (ma_cons (mv 3) ma_nil))))
      (mss_one (ms_if (mt_not (mt_val (mh_call h__law_same (hr.mono (by decide)) rfl (ma_cons (mv 8) (ma_cons (mv 6) ma_nil))))) (mss_one (ms_ret me_bl)) mss_nil)))) mss_nil)))
      (mss_one (ms_ret me_bl)))))))
/-! _law_lowest_right -/
abbrev s__law_lowest_right : Stmt := top 44
abbrev nm__law_lowest_right : List Str := ["box", "by_name", "factor", "top", "base", "one", "other", "due", "right"]
theorem sc__law_lowest_right : FnScope ["box", "by_name", "factor", "top", "base", "one", "other", "due", "right"] ["box", "by_name"] (defScope s__law_lowest_right) := ⟨rfl, rfl, rfl, by decide +kernel, rfl, by decide +kernel, by decide +kernel⟩
def b__law_lowest_right : MS :=
  (sSeq (sPar3 2 3 4 (mCons (mCall m__law_great (mCons (mVar 0) (mCons (mC (.int 120)) mNil))) (mCons (mCall m__law_great (mCons (mVar 0) (mCons (mC (.int 100)) mNil))) (mCons (mCall m__law_great (mCons (mVar 0) (mCons (mC (.int 100)) mNil))) mNil))))
  (sSeq (sFor (miSeq (mList .pure (mCons (mTup (mCons (mBin (gMul .pure) (mVar 3) (mVar 2)) (mCons (mBin (gMul .pure) (mVar 4) (mVar 2)) mNil))) (mCons (mTup (mCons (mBin (gInt iSub) (mC (.int 0)) (mBin (gMul .pure) (mVar 3) (mVar 2))) (mCons (mBin (gMul .pure) (mVar 4) (mVar 2)) mNil))) (mCons (mTup (mCons (mBin (gMul .pure) (mVar 3) (mVar 2)) (mCons (mBin (gInt iSub) (mC (.int 0)) (mBin (gMul .pure) (mVar 4) (mVar 2))) mNil))) (mCons (mTup (mCons (mC (.int 0)) (mCons (mBin (gMul .pure) (mVar 4) (mVar 2)) mNil))) (mCons (mTup (mCons (mVar 2) (mCons (mVar 2) mNil))) mNil))))))) (mgTup 2 (mgCons (mgName 5) (mgCons (mgName 6) mgNil))) (sSeq (sAsg (mCall m__law_low (mCons (mVar 5) (mCons (mVar 6) mNil))) (mgName 7))
  (sSeq (sIf (mNot (mTest (mCall (m__law_same 4) (mCons (mIf (mTest (mVar 1)) (mCallK m_lowest [1, 0] 0 2 mNil (mCons (mVar 6) (mCons (mVar 5) mNil))) (mCall m_lowest (mCons (mVar 5) (mCons (mVar 6) mNil)))) (mCons (mVar 7) mNil))))) (sRet (mC (.bl false))) sNil)
  (sSeq (sAsg (mAndV (mBin (gInt iGt) (mVar 6) (mC (.int 0))) (mBin (gEq) (mVar 7) (mTup (mCons (mVar 5) (mCons (mVar 6) mNil))))) (mgName 8))
  (sSeq (sIf (mNot (mTest (mCall (m__law_same 4) (mCons (mList .pure (mCons (mCall m_is_fraction (mCons (mTup (mCons (mVar 5) (mCons (mVar 6) mNil))) mNil)) (mCons (mCall m_is_chance (mCons (mTup (mCons (mVar 5) (mCons (mVar 6) mNil))) mNil)) (mCons (mCall m_is_fraction (mCons (mVar 7) mNil)) (mCons (mCall m_is_fraction (mCons (mList .pure (mCons (mBin gIx (mVar 7) (mC (.int 0))) (mCons (mBin gIx (mVar 7) (mC (.int 1))) mNil))) mNil)) mNil))))) (mCons (mList .pure (mCons (mVar 8) (mCons (mAndV (mVar 8) (mChain (gInt iLe) (gInt iLe) (mC (.int 0)) (mVar 5) (mVar 6))) (mCons (mC (.bl true)) (mCons (mC (.bl false)) mNil))))) mNil))))) (sRet (mC (.bl false))) sNil)
  (sAsg (mNotV (mVar 1)) (mgName 1)))))))
  (sRet (mCall (m__law_same 4) (mCons (mList .pure (mCons (mCall m_is_chance (mCons (mTup (mCons (mVar 2) (mCons (mBin (gAdd .pure) (mVar 2) (mC (.int 1))) mNil))) mNil)) (mCons (mCall m_is_chance (mCons (mTup (mCons (mBin (gAdd .pure) (mVar 2) (mC (.int 1))) (mCons (mVar 2) mNil))) mNil)) (mCons (mCall m_is_fraction (mCons (mTup (mCons (mBin (gMul .pure) (mC (.int 2)) (mVar 2)) (mCons (mBin (gAdd .pure) (mBin (gMul .pure) (mC (.int 2)) (mVar 2)) (mC (.int 2))) mNil))) mNil)) mNil)))) (mCons (mList .pure (mCons (mC (.bl true)) (mCons (mBin (gEq) (mVar 2) (mC (.int 0))) (mCons (mC (.bl false)) mNil)))) mNil))))))
def m__law_lowest_right : List W → Sto → Option (W × Sto) := runDef 9 2 false b__law_lowest_right
theorem ok__law_lowest_right {P : Program} {w : World} {K : PySem.W.Frag} {mg : Str → Option Value} {base : Heap} (D : DefT K mg "_law_lowest_right" s__law_lowest_right) (h__law_great : Has P w K mg base "_law_great" s__law_great ["box", "digits"] 2 m__law_great) (h__law_low : Has P w K mg base "_law_low" s__law_low ["top", "base"] 1 m__law_low) (h__law_same : Has P w K mg base "_law_same" s__law_same ["given", "due"] 4 (m__law_same 4)) (h_lowest : Has P w K mg base "lowest" s_lowest ["top", "base"] 3 m_lowest) (h_is_fraction : Has P w K mg base "is_fraction" s_is_fraction ["value"] 2 m_is_fraction) (h_is_chance : Has P w K mg base "is_chance" s_is_chance ["value"] 3 m_is_chance) : Has P w K mg base "_law_lowest_right" s__law_lowest_right ["box", "by_name"] 5 m__law_lowest_right :=
  has_def (N := nm__law_lowest_right) (ps := ["box", "by_name"]) (k := 4) (body := b__law_lowest_right) D sc__law_lowest_right (fun _ _ _ _ _ _ us hl => match us, hl with | [_, _], _ => rfl) (fun f cdv A outer s H E hr => (mss_cons (ms_par3 (ps_par3 (i := 2) (j := 3) (l := 4) rfl sc__law_lowest_right.nd rfl rfl rfl (by decide) (by decide) (by decide) rfl rfl rfl (ma_cons (mh_call h__law_great (hr.mono (by decide)) rfl (ma_cons (mv 0) (ma_cons me_int ma_nil))) (ma_cons (mh_call h__law_great (hr.mono (by decide)) rfl (ma_cons (mv 0) (ma_cons me_int ma_nil))) (ma_cons (mh_call h__law_great (hr.mono (by decide)) rfl (ma_cons (mv 0) (ma_cons me_int ma_nil))) ma_nil))) (by rfl)))
      (mss_cons (ms_for PassesOwn.never rfl (mi_seq (me_list .pure (ma_cons (me_tup (ma_cons (me_bin (om_mul .pure) (mv 3) (mv 2)) (ma_cons (me_bin (om_mul .pure) (mv 4) (mv 2)) ma_nil))) (ma_cons (me_tup (ma_cons (me_bin om_sub me_int (me_bin (om_mul .pure) (mv 3) (mv 2))) (ma_cons (me_bin (om_mul .pure) (mv 4) (mv 2)) ma_nil))) (ma_cons (me_tup (ma_cons (me_bin (om_mul .pure) (mv 3) (mv 2)) (ma_cons (me_bin om_sub me_int (me_bin (om_mul .pure) (mv 4) (mv 2))) ma_nil))) (ma_cons (me_tup (ma_cons me_int (ma_cons (me_bin (om_mul .pure) (mv 4) (mv 2)) ma_nil))) (ma_cons (me_tup (ma_cons (mv 2) (ma_cons (mv 2) ma_nil))) ma_nil))))))) (mg_tup rfl (mgs_cons (gv 5 sc__law_lowest_right.nd) (mgs_cons (gv 6 sc__law_lowest_right.nd) mgs_nil))) (mss_cons (ms_set 7 sc__law_lowest_right.nd (mh_call h__law_low (hr.mono (by decide)) rfl (ma_cons (mv 5) (ma_cons (mv 6) ma_nil))))
      (mss_cons (ms_if (mt_not (mt_val (mh_call h__law_same (hr.mono (by decide)) rfl (ma_cons (me_if (mt_val (mv 1)) (mh_callK0 (b := 2) (is := [1, 0]) h_lowest (hr.mono (by decide)) rfl (by decide) (fun _ _ _ _ _ _ us ws h1 h2 => match us, ws, h1, h2 with | [], [_, _], _, _ => rfl) (mk_cons (mv 6) (mk_cons (mv 5) mk_nil))) (mh_call h_lowest (hr.mono (by decide)) rfl (ma_cons (mv 5) (ma_cons (mv 6) ma_nil)))) (ma_cons (mv 7) ma_nil))))) (mss_one (ms_ret me_bl)) mss_nil)
      (mss_cons (ms_set 8 sc__law_lowest_right.nd (me_and (me_cmp om_gt (mv 6) me_int (nomark _)) (me_one (me_cmp (om_eq hr) (mv 7) (me_tup (ma_cons (mv 5) (ma_cons (mv 6) ma_nil))) (nomark _)))))
      (mss_cons (ms_if (mt_not (mt_val (mh_call h__law_same (hr.mono (by decide)) rfl (ma_cons (me_list .pure (ma_cons (mh_call h_is_fraction (hr.mono (by decide)) rfl (ma_cons (me_tup (ma_cons (mv 5) (ma_cons (mv 6) ma_nil))) ma_nil)) (ma_cons (mh_call h_is_chance (hr.mono (by decide)) rfl (ma_cons (me_tup (ma_cons (mv 5) (ma_cons (mv 6) ma_nil))) ma_nil)) (ma_cons (mh_call h_is_fraction (hr.mono (by decide)) rfl (ma_cons (mv 7) ma_nil)) (ma_cons (mh_call h_is_fraction (hr.mono (by decide)) rfl (ma_cons (me_list .pure (ma_cons (me_ix (mv 7) me_int (fun _ _ => rfl)) (ma_cons (me_ix (mv 7) me_int (fun _ _ => rfl)) ma_nil))) ma_nil)) ma_nil))))) (ma_cons (me_list .pure (ma_cons (mv 8) (ma_cons (me_and (mv 8) (me_one (me_chain om_le om_le me_int (mv 5) (mv 6)))) (ma_cons me_bl (ma_cons me_bl ma_nil))))) ma_nil))))) (mss_one (ms_ret me_bl)) mss_nil)
      (mss_one (ms_set 1 sc__law_lowest_right.nd (me_not (mv 1)))))))))
      (mss_one (ms_ret (mh_call h__law_same (hr.mono (by decide)) rfl (ma_cons (me_list .pure (ma_cons (mh_call h_is_chance (hr.mono (by decide)) rfl (ma_cons (me_tup (ma_cons (mv 2) (ma_cons (me_bin (om_add .pure) (mv 2) me_int) ma_nil))) ma_nil)) (ma_cons (mh_call h_is_chance (hr.mono (by decide)) rfl (ma_cons (me_tup (ma_cons (me_bin (om_add .pure) (mv 2) me_int) (ma_cons (mv 2) ma_nil))) ma_nil)) (ma_cons (mh_call h_is_fraction (hr.mono (by decide)) rfl (ma_cons (me_tup (ma_cons (me_bin (om_mul .pure) me_int (mv 2)) (ma_cons (me_bin (om_add .pure) (me_bin (om_mul .pure) me_int (mv 2)) me_int) ma_nil))) ma_nil)) ma_nil)))) (ma_cons (me_list .pure (ma_cons me_bl (ma_cons (me_cmp (om_eq hr) (mv 2) me_int (nomark _)) (ma_cons me_bl ma_nil)))) ma_nil))))))))
/-! law -/
abbrev s_law : Stmt := top 45
abbrev nm_law : List Str := ["script", "k", "box", "turn", "at", "by_name", "some"]
theorem sc_law : FnScope ["script", "k", "box", "turn", "at", "by_name", "some"] ["script"] (defScope s_law) := ⟨rfl, rfl, rfl, by decide +kernel, rfl, by decide +kernel, by decide +kernel⟩
def b_law : MS :=
  (sSeq (sFor (miRange1 (mCons (mC (.int 2)) mNil)) (mgName 1) (sSeq (sAsg (mCall m__law_box (mCons (mCall m__law_cell (mCons (mVar 0) (mCons (mVar 1) mNil))) mNil)) (mgName 2))
  (sSeq (sPar 5 6 (mCons (mBin (gEq) (mCall m__law_take (mCons (mVar 2) (mCons (mC (.int 2)) mNil))) (mC (.int 0))) (mCons (mList .own mNil) mNil)))
  (sSeq (sFor (miRange1 (mCons (mBin (gAdd .pure) (mC (.int 3)) (mCall m__law_take (mCons (mVar 2) (mCons (mC (.int 4)) mNil)))) mNil)) (mgName 3) (sExpr (mMeth "list" gAppend (mVar 6) (mCons (mCall m__law_fraction (mCons (mVar 2) (mCons (mVar 6) mNil))) mNil))))
  (sSeq (sFor (miRange1 (mCons (mCall gLen (mCons (mVar 6) mNil)) mNil)) (mgName 4) (sSeq (sIf (mOr (mNot (mTest (mCall m__law_two_right (mCons (mBin gIx (mVar 6) (mBin (gInt iSub) (mVar 4) (mC (.int 1)))) (mCons (mBin gIx (mVar 6) (mVar 4)) (mCons (mVar 5) mNil)))))) (mNot (mTest (mCall m__law_two_right (mCons (mBin gIx (mVar 6) (mVar 4)) (mCons (mBin gIx (mVar 6) (mBin (gInt iSub) (mVar 4) (mC (.int 1)))) (mCons (mNotV (mVar 5)) mNil))))))) (sRet (mC (.bl false))) sNil)
  (sSeq (sIf (mNot (mTest (mCall m__law_three_right (mCons (mBin gIx (mVar 6) (mBin (gInt iSub) (mVar 4) (mC (.int 2)))) (mCons (mBin gIx (mVar 6) (mBin (gInt iSub) (mVar 4) (mC (.int 1)))) (mCons (mBin gIx (mVar 6) (mVar 4)) (mCons (mVar 5) mNil))))))) (sRet (mC (.bl false))) sNil)
  (sAsg (mNotV (mVar 5)) (mgName 5)))))
  (sIf (mOr (mNot (mTest (mCall m__law_rows_right (mCons (mVar 2) (mCons (mVar 6) (mCons (mVar 5) mNil)))))) (mNot (mTest (mCall m__law_lowest_right (mCons (mVar 2) (mCons (mNotV (mVar 5)) mNil)))))) (sRet (mC (.bl false))) sNil))))))
  (sRet (mC (.bl true))))
def m_law : List W → Sto → Option (W × Sto) := runDef 7 1 false b_law
theorem ok_law {P : Program} {w : World} {K : PySem.W.Frag} {mg : Str → Option Value} {base : Heap} (D : DefT K mg "law" s_law) (h__law_box : Has P w K mg base "_law_box" s__law_box ["great"] 1 m__law_box) (h__law_cell : Has P w K mg base "_law_cell" s__law_cell ["script", "k"] 1 m__law_cell) (h__law_take : Has P w K mg base "_law_take" s__law_take ["box", "many"] 1 m__law_take) (h__law_fraction : Has P w K mg base "_law_fraction" s__law_fraction ["box", "found"] 3 m__law_fraction) (h__law_two_right : Has P w K mg base "_law_two_right" s__law_two_right ["one", "other", "by_name"] 6 m__law_two_right) (h__law_three_right : Has P w K mg base "_law_three_right" s__law_three_right ["a", "b", "c", "by_name"] 6 m__law_three_right) (h__law_rows_right : Has P w K mg base "_law_rows_right" s__law_rows_right ["box", "some", "by_name"] 6 m__law_rows_right) (h__law_lowest_right : Has P w K mg base "_law_lowest_right" s__law_lowest_right ["box", "by_name"] 5 m__law_lowest_right) (z_range : mg "range" = none) (z_len : mg "len" = none) : Has P w K mg base "law" s_law ["script"] 7 m_law :=
  has_def (N := nm_law) (ps := ["script"]) (k := 6) (body := b_law) D sc_law (fun _ _ _ _ _ _ us hl => match us, hl with | [_], _ => rfl) (fun f cdv A outer s H E hr => (mss_cons (ms_for PassesOwn.never rfl (mi_range1 rfl z_range (ma_cons me_int ma_nil)) (gv 1 sc_law.nd) (mss_cons (ms_set 2 sc_law.nd (mh_call h__law_box (hr.mono (by decide)) rfl (ma_cons (mh_call h__law_cell (hr.mono (by decide)) rfl (ma_cons (mv 0) (ma_cons (mv 1) ma_nil))) ma_nil)))
      (mss_cons (ms_par (ps_par (i := 5) (j := 6) rfl sc_law.nd rfl rfl (by decide) rfl rfl (ma_cons (me_cmp (om_eq hr) (mh_call h__law_take (hr.mono (by decide)) rfl (ma_cons (mv 2) (ma_cons me_int ma_nil))) me_int (nomark _)) (ma_cons (me_list .own ma_nil) ma_nil)) (by rfl)))
      (mss_cons (ms_for PassesOwn.never rfl (mi_range1 rfl z_range (ma_cons (me_bin (om_add .pure) me_int (mh_call h__law_take (hr.mono (by decide)) rfl (ma_cons (mv 2) (ma_cons me_int ma_nil)))) ma_nil)) (gv 3 sc_law.nd) (mss_one (ms_expr (me_meth PySem.F.plainAttrs_list PySem.F.slot_list_append PySem.F.type_list_append mm_append (mv 6) (ma_cons (mh_call h__law_fraction (hr.mono (by decide)) rfl (ma_cons (mv 2) (ma_cons (mv 6) ma_nil))) ma_nil)))))
      (mss_cons (ms_for PassesOwn.never rfl (mi_range1 rfl z_range (ma_cons (me_callB cm_len rfl z_len bb_len (ma_cons (mv 6) ma_nil)) ma_nil)) (gv 4 sc_law.nd) (mss_cons (ms_if (PW.pt (mw_or (mt_not (mt_val (mh_call h__law_two_right (hr.mono (by decide)) rfl (ma_cons (me_ix (mv 6) (me_bin om_sub (mv 4) me_int) (fun _ _ => rfl)) (ma_cons (me_ix (mv 6) (mv 4) (fun _ _ => rfl)) (ma_cons (mv 5) ma_nil)))))) (mw_or1 (mt_not (mt_val (mh_call h__law_two_right (hr.mono (by decide)) rfl (ma_cons (me_ix (mv 6) (mv 4) (fun _ _ => rfl)) (ma_cons (me_ix (mv 6) (me_bin om_sub (mv 4) me_int) (fun _ _ => rfl)) (ma_cons (me_not (mv 5)) ma_nil))))))))) (mss_one (ms_ret me_bl)) mss_nil)
      (mss_cons (ms_if (mt_not (mt_val (mh_call h__law_three_right (hr.mono (by decide)) rfl (ma_cons (me_ix (mv 6) (me_bin om_sub (mv 4) me_int) (fun _ _ => rfl)) (ma_cons (me_ix (mv 6) (me_bin om_sub (mv 4) me_int) (fun _ _ => rfl)) (ma_cons (me_ix (mv 6) (mv 4) (fun _ _ => rfl)) (ma_cons (mv 5) ma_nil))))))) (mss_one (ms_ret me_bl)) mss_nil)
      (mss_one (ms_set 5 sc_law.nd (me_not (mv 5)))))))
      (mss_one (ms_if (PW.pt (mw_or (mt_not (mt_val (mh_call h__law_rows_right (hr.mono (by decide)) rfl (ma_cons (mv 2) (ma_cons (mv 6) (ma_cons (mv 5) ma_nil)))))) (mw_or1 (mt_not (mt_val (mh_call h__law_lowest_right (hr.mono (by decide)) rfl (ma_cons (mv 2) (ma_cons (me_not (mv 5)) ma_nil)))))))) (mss_one (ms_ret me_bl)) mss_nil)))))))
      (mss_one (ms_ret me_bl))))
/-- what the top has made, all of it -/
structure Tops (K : PySem.W.Frag) (mg : Str → Option Value) : Prop where
  d_is_integer : DefT K mg "is_integer" s_is_integer
  d_is_tuple : DefT K mg "is_tuple" s_is_tuple
  d_common : DefT K mg "common" s_common
  d_reduced : DefT K mg "reduced" s_reduced
  d_is_fraction : DefT K mg "is_fraction" s_is_fraction
  d_is_chance : DefT K mg "is_chance" s_is_chance
  d_check_fraction : DefT K mg "check_fraction" s_check_fraction
  d_lowest : DefT K mg "lowest" s_lowest
  d_check_two : DefT K mg "check_two" s_check_two
  d_add : DefT K mg "add" s_add
  d_subtract : DefT K mg "subtract" s_subtract
  d_multiply : DefT K mg "multiply" s_multiply
  d_divide : DefT K mg "divide" s_divide
  d_is_below : DefT K mg "is_below" s_is_below
  d_plus : DefT K mg "plus" s_plus
  d_minus : DefT K mg "minus" s_minus
  d_times : DefT K mg "times" s_times
  d_over : DefT K mg "over" s_over
  d_compared : DefT K mg "compared" s_compared
  d__law_cell : DefT K mg "_law_cell" s__law_cell
  d__law_box : DefT K mg "_law_box" s__law_box
  d__law_take : DefT K mg "_law_take" s__law_take
  d__law_pick : DefT K mg "_law_pick" s__law_pick
  d__law_mixed : DefT K mg "_law_mixed" s__law_mixed
  d__law_same : DefT K mg "_law_same" s__law_same
  d__law_low : DefT K mg "_law_low" s__law_low
  d__law_add : DefT K mg "_law_add" s__law_add
  d__law_less : DefT K mg "_law_less" s__law_less
  d__law_times : DefT K mg "_law_times" s__law_times
  d__law_under : DefT K mg "_law_under" s__law_under
  d__law_great : DefT K mg "_law_great" s__law_great
  d__law_fraction : DefT K mg "_law_fraction" s__law_fraction
  d__law_over : DefT K mg "_law_over" s__law_over
  d__law_order : DefT K mg "_law_order" s__law_order
  d__law_two_right : DefT K mg "_law_two_right" s__law_two_right
  d__law_three_right : DefT K mg "_law_three_right" s__law_three_right
  d__law_rows_right : DefT K mg "_law_rows_right" s__law_rows_right
  d__law_lowest_right : DefT K mg "_law_lowest_right" s__law_lowest_right
  d_law : DefT K mg "law" s_law
  z_isinstance : mg "isinstance" = none
  z_int : mg "int" = none
  z_bool : mg "bool" = none
  z_tuple : mg "tuple" = none
  z_len : mg "len" = none
  z_abs : mg "abs" = none
  z_sum : mg "sum" = none
  z_list : mg "list" = none
  z_range : mg "range" = none
  z_str : mg "str" = none
  z_dict : mg "dict" = none
  z_max : mg "max" = none
theorem all_ok {P : Program} {w : World} {K : PySem.W.Frag} {mg : Str → Option Value} {base : Heap} (T : Tops K mg) : Has P w K mg base "law" s_law ["script"] 7 m_law := by
  have h_is_integer := ok_is_integer (P := P) (w := w) (base := base) T.d_is_integer T.z_isinstance T.z_int T.z_bool
  have h_is_tuple := ok_is_tuple (P := P) (w := w) (base := base) T.d_is_tuple T.z_isinstance T.z_tuple T.z_len
  have h_common := ok_common (P := P) (w := w) (base := base) T.d_common
  have h_reduced := ok_reduced (P := P) (w := w) (base := base) T.d_reduced h_common T.z_abs
  have h_is_fraction := ok_is_fraction (P := P) (w := w) (base := base) T.d_is_fraction h_is_tuple h_is_integer h_common T.z_abs
  have h_is_chance := ok_is_chance (P := P) (w := w) (base := base) T.d_is_chance h_is_fraction
  have h_check_fraction := ok_check_fraction (P := P) (w := w) (base := base) T.d_check_fraction h_is_fraction
  have h_lowest := ok_lowest (P := P) (w := w) (base := base) T.d_lowest h_is_integer h_reduced
  have h_check_two := ok_check_two (P := P) (w := w) (base := base) T.d_check_two h_check_fraction
  have h_add := ok_add (P := P) (w := w) (base := base) T.d_add h_reduced
  have h_subtract := ok_subtract (P := P) (w := w) (base := base) T.d_subtract h_reduced
  have h_multiply := ok_multiply (P := P) (w := w) (base := base) T.d_multiply h_reduced
  have h_divide := ok_divide (P := P) (w := w) (base := base) T.d_divide h_reduced
  have h_is_below := ok_is_below (P := P) (w := w) (base := base) T.d_is_below
  have h_plus := ok_plus (P := P) (w := w) (base := base) T.d_plus h_check_two h_add
  have h_minus := ok_minus (P := P) (w := w) (base := base) T.d_minus h_check_two h_subtract
  have h_times := ok_times (P := P) (w := w) (base := base) T.d_times h_check_two h_multiply
  have h_over := ok_over (P := P) (w := w) (base := base) T.d_over h_check_two h_divide
  have h_compared := ok_compared (P := P) (w := w) (base := base) T.d_compared h_check_two h_is_below
  have h__law_cell := ok__law_cell (P := P) (w := w) (base := base) T.d__law_cell T.z_len T.z_sum T.z_int
  have h__law_box := ok__law_box (P := P) (w := w) (base := base) T.d__law_box T.z_abs T.z_int
  have h__law_take := ok__law_take (P := P) (w := w) (base := base) T.d__law_take T.z_int
  have h__law_pick := ok__law_pick (P := P) (w := w) (base := base) T.d__law_pick h__law_take T.z_len
  have h__law_mixed := ok__law_mixed (P := P) (w := w) (base := base) T.d__law_mixed h__law_take T.z_list T.z_len T.z_range
  have h__law_same := ok__law_same (P := P) (w := w) (base := base) T.d__law_same T.z_isinstance T.z_bool T.z_int T.z_str T.z_list T.z_tuple T.z_dict T.z_len T.z_range 4
  have h__law_low := ok__law_low (P := P) (w := w) (base := base) T.d__law_low T.z_abs T.z_int
  have h__law_add := ok__law_add (P := P) (w := w) (base := base) T.d__law_add h__law_low
  have h__law_less := ok__law_less (P := P) (w := w) (base := base) T.d__law_less h__law_low
  have h__law_times := ok__law_times (P := P) (w := w) (base := base) T.d__law_times h__law_low
  have h__law_under := ok__law_under (P := P) (w := w) (base := base) T.d__law_under
  have h__law_great := ok__law_great (P := P) (w := w) (base := base) T.d__law_great h__law_take T.z_max T.z_range
  have h__law_fraction := ok__law_fraction (P := P) (w := w) (base := base) T.d__law_fraction h__law_take h__law_pick h__law_low h__law_great T.z_abs
  have h__law_over := ok__law_over (P := P) (w := w) (base := base) T.d__law_over h__law_low
  have h__law_order := ok__law_order (P := P) (w := w) (base := base) T.d__law_order h__law_under T.z_int
  have h__law_two_right := ok__law_two_right (P := P) (w := w) (base := base) T.d__law_two_right h__law_add h__law_less h__law_times h__law_order h_plus h_minus h_times h_compared h__law_same h_over h__law_over h_is_fraction h_is_chance
  have h__law_three_right := ok__law_three_right (P := P) (w := w) (base := base) T.d__law_three_right h__law_times h__law_add h_times h_plus h_minus h__law_same h__law_order h_compared T.z_int
  have h__law_rows_right := ok__law_rows_right (P := P) (w := w) (base := base) T.d__law_rows_right h__law_add h__law_times h__law_mixed h_plus h_times h__law_same h__law_over h_over T.z_range
  have h__law_lowest_right := ok__law_lowest_right (P := P) (w := w) (base := base) T.d__law_lowest_right h__law_great h__law_low h__law_same h_lowest h_is_fraction h_is_chance
  exact ok_law T.d_law h__law_box h__law_cell h__law_take h__law_fraction h__law_two_right h__law_three_right h__law_rows_right h__law_lowest_right T.z_range T.z_len
theorem end_ok {P : Program} {w : World} {K : PySem.W.Frag} {mg : Str → Option Value} (T : Tops K mg) : DefT K mg "law" s_law ∧ ∀ base : Heap, K.In base → base.Ns mainGlobals mg → Has P w K mg base "law" s_law ["script"] 7 m_law := ⟨T.d_law, fun _ _ _ => all_ok T⟩
end K01
end
section
set_option maxRecDepth 100000
namespace K01
open PySem L2 MW
theorem is_integer_int (i : Int) (S : Sto) : m_is_integer [.d (.int i)] S = some (.d (.bl true), S) := by
  simp -implicitDefEqProofs [m_is_integer, runPure, b_is_integer, startE, tyD, isT]
theorem is_tuple_tup (xs : List D) (n : Int) (S : Sto) : m_is_tuple [.d (.tup xs), .d (.int n)] S = some (.d (.bl (decide ((xs.length : Int) = n))), S) := by
  simp -implicitDefEqProofs [m_is_tuple, runPure, b_is_tuple, startE, tyD, isT]
theorem is_tuple_lst (xs : List D) (n : Int) (S : Sto) : m_is_tuple [.d (.lst xs), .d (.int n)] S = some (.d (.bl false), S) := by
  simp -implicitDefEqProofs [m_is_tuple, runPure, b_is_tuple, startE, tyD, isT]
theorem common_loop (n : Nat) (S : Sto) : ∀ (a b : Nat), b < n → whileM (mTest (mBin (gNe) (mVar 1) (mC (.int 0)))) (sPar 0 1 (mCons (mVar 1) (mCons (mBin (gInt iMod) (mVar 0) (mVar 1)) mNil))) n [some (.d (.int a)), some (.d (.int b))] S = some (.nx [some (.d (.int (Nat.gcd a b))), some (.d (.int 0))] S) := by
  induction n with
  | zero => intro a b h; omega
  | succ n ih =>
    intro a b h
    unfold whileM
    by_cases h0 : b = 0
    · subst h0
      simp
    · have h1 : 0 < (b : Int) := by omega
      have e : ((a : Int) % (b : Int)) = ((a % b : Nat) : Int) := by simp
      have hlt : a % b < b := Nat.mod_lt _ (by omega)
      simp [iMod_pos h1, h0]
      rw [e, ih b (a % b) (by omega), Nat.gcd_comm a b, Nat.gcd_rec b a, Nat.gcd_comm b]
theorem common_ok (a b : Nat) (S : Sto) : m_common [.d (.int a), .d (.int b)] S = some (.d (.int (Nat.gcd a b)), S) := by
  simp -implicitDefEqProofs [m_common, runPure, b_common, startE, sWhile, fuelAbs]
  rw [common_loop (b + 1) [] a b (by omega)]
  simp
theorem pow9000 {b : Int} {n : Nat} (h : b.natAbs < 2 ^ n) (hn : n ≤ 9000) : b.natAbs < 2 ^ 9000 := Nat.lt_of_lt_of_le h (Nat.pow_le_pow_right (by decide) hn)
theorem reduced_ok {a b : Int} {n : Nat} (hb : b ≠ 0) (h : b.natAbs < 2 ^ n) (hn : n ≤ 9000) (S : Sto) : m_reduced [.d (.int a), .d (.int b)] S = some (.d (fr (Rat.divInt a b)), S) := by
  obtain ⟨r1, r2, r3, r4⟩ := red_num (a := a) hb _ rfl
  have hl : ∀ x : Int, x ≠ 0 → x.natAbs ≤ b.natAbs → x.natAbs.log2 < 9000 := fun x hx hle => log2_lt (Nat.lt_of_le_of_lt hle (pow9000 h hn)) (by decide)
  have hg : (Nat.gcd a.natAbs b.natAbs) ≤ b.natAbs := Nat.le_of_dvd (by omega) (Nat.gcd_dvd_right _ _)
  have hgl : ((Nat.gcd a.natAbs b.natAbs : Nat) : Int).natAbs.log2 < 9000 := by
    rw [Int.natAbs_natCast]; exact log2_lt (Nat.lt_of_le_of_lt hg (pow9000 h hn)) (by decide)
  have gm : ∀ (S : Sto), gMul .pure (.d (.int (Nat.gcd a.natAbs b.natAbs : Nat))) (.d (.int (if b > 0 then 1 else -1))) S = some (.d (.int ((Nat.gcd a.natAbs b.natAbs : Int) * (if b > 0 then 1 else -1))), S) := fun S => by
    refine gMul_int ?_
    have : ((if b > 0 then 1 else -1 : Int)).natAbs.log2 = 0 := by split <;> decide
    omega
  have dv : ∀ x : Int, iDiv x ((Nat.gcd a.natAbs b.natAbs : Int) * (if b > 0 then 1 else -1)) = some (.int (x.fdiv ((Nat.gcd a.natAbs b.natAbs : Int) * (if b > 0 then 1 else -1)))) := fun x => by
    unfold iDiv
    rw [if_pos ⟨r3, hl _ r3 r4⟩]
  have hs : (2 : Nat) ≤ sizeLine := by decide
  have main : runPure 3 2 b_reduced [.int a, .int b] = some (fr (Rat.divInt a b)) := by
    rw [fr_eq, ← r1, ← r2]
    by_cases hp : 0 < b
    · have q := gm []
      simp only [gt_iff_lt, hp, if_true, Int.mul_one] at q dv ⊢
      simp [runPure, b_reduced, startE, common_ok, hp, q, dv, hs]
    · have q := gm []
      simp only [gt_iff_lt, hp, if_false, Int.mul_neg, Int.mul_one] at q dv ⊢
      simp [runPure, b_reduced, startE, common_ok, hp, q, dv, hs]
  show callP (runPure 3 2 b_reduced) [.d (.int a), .d (.int b)] S = _
  rw [callP_2, main]
  rfl
theorem is_fraction_pair (a b : Int) (S : Sto) : m_is_fraction [.d (.tup [.int a, .int b])] S = some (.d (.bl (decide (0 < b) && decide (Nat.gcd a.natAbs b.natAbs = 1))), S) := by
  by_cases h : 0 < b
  · have hb : b = ((b.natAbs : Nat) : Int) := by omega
    have hc := common_ok a.natAbs b.natAbs
    rw [← hb] at hc
    simp -implicitDefEqProofs [m_is_fraction, runPure, b_is_fraction, startE, is_tuple_tup, is_integer_int, hc, h]
    clear hc
    generalize Nat.gcd a.natAbs b.natAbs = g
    trace_state
    omega
  · simp -implicitDefEqProofs [m_is_fraction, runPure, b_is_fraction, startE, is_tuple_tup, is_integer_int, h]
theorem is_fraction_lst (xs : List D) (S : Sto) : m_is_fraction [.d (.lst xs)] S = some (.d (.bl false), S) := by
  simp -implicitDefEqProofs [m_is_fraction, runPure, b_is_fraction, startE, is_tuple_lst]
theorem is_fraction_fr (r : Rat) (S : Sto) : m_is_fraction [.d (fr r)] S = some (.d (.bl true), S) := by
  rw [fr_eq, is_fraction_pair]
  have h1 := r.den_pos
  have h2 : Nat.gcd r.num.natAbs r.den = 1 := r.reduced
  simp [h1, h2]
theorem is_chance_pair (a b : Int) (S : Sto) : m_is_chance [.d (.tup [.int a, .int b])] S = some (.d (.bl (decide (0 < b) && decide (Nat.gcd a.natAbs b.natAbs = 1) && decide (0 ≤ a) && decide (a ≤ b))), S) := by
  by_cases h : 0 < b <;> by_cases h2 : Nat.gcd a.natAbs b.natAbs = 1 <;> by_cases h3 : 0 ≤ a <;>
    simp -implicitDefEqProofs [m_is_chance, runPure, b_is_chance, startE, is_fraction_pair, h, h2, h3]
theorem check_fraction_fr (r : Rat) (S : Sto) : m_check_fraction [.d (fr r)] S = some (.d .non, S) := by
  simp -implicitDefEqProofs [m_check_fraction, runPure, b_check_fraction, startE, is_fraction_fr]
theorem check_two_fr (r s : Rat) (S : Sto) : m_check_two [.d (fr r), .d (fr s)] S = some (.d .non, S) := by
  simp -implicitDefEqProofs [m_check_two, runPure, b_check_two, startE, check_fraction_fr]
theorem nat_b {x : Nat} {n : Nat} (h : x < 2 ^ n) : ((x : Nat) : Int).natAbs < 2 ^ n := by rw [Int.natAbs_natCast]; exact h
theorem add_ok {r s : Rat} {n m : Nat} (hr : Sz r n) (hs : Sz s m) (h : n + m ≤ 9000) (h1 : 0 < n) (h2 : 0 < m) (S : Sto) : m_add [.d (fr r), .d (fr s)] S = some (.d (fr (r + s)), S) := by
  have q1 := gMul_b (mk := .pure) (S := ([] : Sto)) hr.num (nat_b hs.den) h1 h2 (by omega)
  have q2 := gMul_b (mk := .pure) (S := ([] : Sto)) hs.num (nat_b hr.den) h2 h1 (by omega)
  have q3 := gMul_b (mk := .pure) (S := ([] : Sto)) (nat_b hr.den) (nat_b hs.den) h1 h2 (by omega)
  have hd : (r.den : Int) * s.den ≠ 0 := by exact_mod_cast Nat.ne_of_gt (Nat.mul_pos r.den_pos s.den_pos)
  have hz : ((r.den : Int) * s.den).natAbs < 2 ^ (n + m) := by rw [Int.natAbs_mul]; exact pow_lt_mul (nat_b hr.den) (nat_b hs.den)
  have q4 := reduced_ok (a := r.num * s.den + s.num * r.den) hd hz h ([] : Sto)
  rw [← add_divInt] at q4
  simp -implicitDefEqProofs [m_add, runPure, b_add, startE, fr_eq, q1, q2, q3] at q4 ⊢
  simp [q4]
theorem subtract_ok {r s : Rat} {n m : Nat} (hr : Sz r n) (hs : Sz s m) (h : n + m ≤ 9000) (h1 : 0 < n) (h2 : 0 < m) (S : Sto) : m_subtract [.d (fr r), .d (fr s)] S = some (.d (fr (r - s)), S) := by
  have q1 := gMul_b (mk := .pure) (S := ([] : Sto)) hr.num (nat_b hs.den) h1 h2 (by omega)
  have q2 := gMul_b (mk := .pure) (S := ([] : Sto)) hs.num (nat_b hr.den) h2 h1 (by omega)
  have q3 := gMul_b (mk := .pure) (S := ([] : Sto)) (nat_b hr.den) (nat_b hs.den) h1 h2 (by omega)
  have hd : (r.den : Int) * s.den ≠ 0 := by exact_mod_cast Nat.ne_of_gt (Nat.mul_pos r.den_pos s.den_pos)
  have hz : ((r.den : Int) * s.den).natAbs < 2 ^ (n + m) := by rw [Int.natAbs_mul]; exact pow_lt_mul (nat_b hr.den) (nat_b hs.den)
  have q4 := reduced_ok (a := r.num * s.den - s.num * r.den) hd hz h ([] : Sto)
  rw [← sub_divInt] at q4
  simp -implicitDefEqProofs [m_subtract, runPure, b_subtract, startE, fr_eq, q1, q2, q3] at q4 ⊢
  simp [q4]
theorem multiply_ok {r s : Rat} {n m : Nat} (hr : Sz r n) (hs : Sz s m) (h : n + m ≤ 9000) (h1 : 0 < n) (h2 : 0 < m) (S : Sto) : m_multiply [.d (fr r), .d (fr s)] S = some (.d (fr (r * s)), S) := by
  have q1 := gMul_b (mk := .pure) (S := ([] : Sto)) hr.num hs.num h1 h2 (by omega)
  have q3 := gMul_b (mk := .pure) (S := ([] : Sto)) (nat_b hr.den) (nat_b hs.den) h1 h2 (by omega)
  have hd : (r.den : Int) * s.den ≠ 0 := by exact_mod_cast Nat.ne_of_gt (Nat.mul_pos r.den_pos s.den_pos)
  have hz : ((r.den : Int) * s.den).natAbs < 2 ^ (n + m) := by rw [Int.natAbs_mul]; exact pow_lt_mul (nat_b hr.den) (nat_b hs.den)
  have q4 := reduced_ok (a := r.num * s.num) hd hz h ([] : Sto)
  rw [← mul_divInt] at q4
  simp -implicitDefEqProofs [m_multiply, runPure, b_multiply, startE, fr_eq, q1, q3] at q4 ⊢
  simp [q4]
theorem num_ne {s : Rat} (h : s ≠ 0) : s.num ≠ 0 := fun z => h (Rat.num_eq_zero.mp z)
theorem divide_ok {r s : Rat} {n m : Nat} (hr : Sz r n) (hs : Sz s m) (hs0 : s ≠ 0) (h : n + m ≤ 9000) (h1 : 0 < n) (h2 : 0 < m) (S : Sto) : m_divide [.d (fr r), .d (fr s)] S = some (.d (fr (r / s)), S) := by
  have q1 := gMul_b (mk := .pure) (S := ([] : Sto)) hr.num (nat_b hs.den) h1 h2 (by omega)
  have q3 := gMul_b (mk := .pure) (S := ([] : Sto)) (nat_b hr.den) hs.num h1 h2 (by omega)
  have hd : (r.den : Int) * s.num ≠ 0 := Int.mul_ne_zero (by exact_mod_cast r.den_nz) (num_ne hs0)
  have hz : ((r.den : Int) * s.num).natAbs < 2 ^ (n + m) := by rw [Int.natAbs_mul]; exact pow_lt_mul (nat_b hr.den) hs.num
  have q4 := reduced_ok (a := r.num * s.den) hd hz h ([] : Sto)
  rw [← div_divInt] at q4
  simp -implicitDefEqProofs [m_divide, runPure, b_divide, startE, fr_eq, q1, q3] at q4 ⊢
  simp [q4]
theorem is_below_ok {r s : Rat} {n m : Nat} (hr : Sz r n) (hs : Sz s m) (h : n + m ≤ 9000) (h1 : 0 < n) (h2 : 0 < m) (S : Sto) : m_is_below [.d (fr r), .d (fr s)] S = some (.d (.bl (decide (r < s))), S) := by
  have q1 := gMul_b (mk := .pure) (S := ([] : Sto)) hr.num (nat_b hs.den) h1 h2 (by omega)
  have q2 := gMul_b (mk := .pure) (S := ([] : Sto)) hs.num (nat_b hr.den) h2 h1 (by omega)
  simp -implicitDefEqProofs [m_is_below, runPure, b_is_below, startE, fr_eq, q1, q2, Rat.lt_iff]
theorem plus_ok {r s : Rat} {n m : Nat} (hr : Sz r n) (hs : Sz s m) (h : n + m ≤ 9000) (h1 : 0 < n) (h2 : 0 < m) (S : Sto) : m_plus [.d (fr r), .d (fr s)] S = some (.d (fr (r + s)), S) := by
  simp -implicitDefEqProofs [m_plus, runPure, b_plus, startE, check_two_fr, add_ok hr hs h h1 h2]
theorem minus_ok {r s : Rat} {n m : Nat} (hr : Sz r n) (hs : Sz s m) (h : n + m ≤ 9000) (h1 : 0 < n) (h2 : 0 < m) (S : Sto) : m_minus [.d (fr r), .d (fr s)] S = some (.d (fr (r - s)), S) := by
  simp -implicitDefEqProofs [m_minus, runPure, b_minus, startE, check_two_fr, subtract_ok hr hs h h1 h2]
theorem times_ok {r s : Rat} {n m : Nat} (hr : Sz r n) (hs : Sz s m) (h : n + m ≤ 9000) (h1 : 0 < n) (h2 : 0 < m) (S : Sto) : m_times [.d (fr r), .d (fr s)] S = some (.d (fr (r * s)), S) := by
  simp -implicitDefEqProofs [m_times, runPure, b_times, startE, check_two_fr, multiply_ok hr hs h h1 h2]
theorem over_ok {r s : Rat} {n m : Nat} (hr : Sz r n) (hs : Sz s m) (hs0 : s ≠ 0) (h : n + m ≤ 9000) (h1 : 0 < n) (h2 : 0 < m) (S : Sto) : m_over [.d (fr r), .d (fr s)] S = some (.d (fr (r / s)), S) := by
  have q := divide_ok hr hs hs0 h h1 h2
  have e : gIx (.d (fr s)) (.d (.int 0)) ([] : Sto) = some (.d (.int s.num), []) := by simp [fr_eq]
  simp -implicitDefEqProofs [m_over, runPure, b_over, startE, check_two_fr, q, e, num_ne hs0]
theorem eqv_fr (r s : Rat) : D.eqv (fr r) (fr s) = decide (r = s) := by
  have e : D.eqv (fr r) (fr s) = (decide (r.num = s.num) && decide ((r.den : Int) = s.den)) := by
    show ((r.num == s.num) && (((r.den : Int) == s.den) && true)) = _
    rw [Bool.and_true]
    rfl
  rw [e, ← Bool.decide_and]
  exact decide_eq_decide.mpr ⟨fun h => Rat.ext h.1 (by exact_mod_cast h.2), fun h => by rw [h]; exact ⟨rfl, rfl⟩⟩
theorem shp_fr (r : Rat) : D.shp (fr r) = true := rfl
theorem gEq_fr (r s : Rat) (S : Sto) : gEq (.d (fr r)) (.d (fr s)) S = some (.d (.bl (decide (r = s))), S) := by rw [gEq_d (shp_fr r) (shp_fr s), eqv_fr]
/-- how two fractions stand in order -/
def ord (r s : Rat) : Int := if r = s then 0 else if r < s then -1 else 1
theorem compared_ok {r s : Rat} {n m : Nat} (hr : Sz r n) (hs : Sz s m) (h : n + m ≤ 9000) (h1 : 0 < n) (h2 : 0 < m) (S : Sto) : m_compared [.d (fr r), .d (fr s)] S = some (.d (.int (ord r s)), S) := by
  by_cases e : r = s
  · simp -implicitDefEqProofs [m_compared, runPure, b_compared, startE, check_two_fr, gEq_fr, e, ord]
  · by_cases l : r < s
    · simp -implicitDefEqProofs [m_compared, runPure, b_compared, startE, check_two_fr, gEq_fr, e, ord, is_below_ok hr hs h h1 h2, l]
    · simp -implicitDefEqProofs [m_compared, runPure, b_compared, startE, check_two_fr, gEq_fr, e, ord, is_below_ok hr hs h h1 h2, l]
theorem lowest_ok {a b : Int} {n : Nat} (hb : b ≠ 0) (h : b.natAbs < 2 ^ n) (hn : n ≤ 9000) (S : Sto) : m_lowest [.d (.int a), .d (.int b)] S = some (.d (fr (Rat.divInt a b)), S) := by
  simp -implicitDefEqProofs [m_lowest, runPure, b_lowest, startE, is_integer_int, reduced_ok hb h hn, hb]
end K01
end
section
set_option maxRecDepth 100000
namespace K01
open PySem L2 MW
theorem law_same_refl (n : Nat) : ∀ (x : D) (S : Sto), okD n x → m__law_same n [.d x, .d x] S = some (.d (.bl true), S) := by
  induction n with
  | zero => intro x S h; exact h.elim
  | succ n ih =>
    intro x S h
    have seq : ∀ xs : List D, xs.length ≤ 100000 → (∀ x ∈ xs, okD n x) → ∀ (w : List D → D), (∀ ys, W.seq [] (.d (w ys)) = some ys) → (∀ ys (i : Int), gIx (.d (w ys)) (.d (.int i)) [] = (atI ys i).bind fun z => some (.d z, [])) → (∀ ys, gLen [.d (w ys)] [] = some (.d (.int ys.length), [])) →
        mLc .pure (miRange1 (mCons (mCall gLen (mCons (mVar 1) mNil)) mNil)) (.nm 2) (mNot (mTest (mCall (m__law_same n) (mCons (mBin gIx (mVar 0) (mVar 2)) (mCons (mBin gIx (mVar 1) (mVar 2)) mNil))))) (mVar 2) [2] [some (.d (w xs)), some (.d (w xs)), none, none] [] = some (.d (.lst []), []) := by
      intro xs hl hx w hw hix hlen
      have hr : miRange1 (mCons (mCall gLen (mCons (mVar 1) mNil)) mNil) [some (.d (w xs)), some (.d (w xs)), none, none] [] = some (⟨upFrom 0 xs.length, none⟩, []) := by
        have := miRange1_run (f := mCall gLen (mCons (mVar 1) mNil)) (env := [some (.d (w xs)), some (.d (w xs)), none, none]) (S := []) (S1 := []) (j := xs.length) (by simp [hlen]) (by omega) (by omega)
        simpa using this
      rw [mLc_pure (by decide) hr rfl (fun _ => false) (fun x => x)]
      · simp
      · intro y hy
        obtain ⟨i, hi, rfl⟩ := upFrom_mem hy
        refine ⟨[some (.d (w xs)), some (.d (w xs)), some (.d (.int (0 + i))), none], rfl, ?_, by simp⟩
        have hg : xs[i]? = some xs[i] := by simp [hi]
        have hs := ih xs[i] [] (hx _ (List.getElem_mem hi))
        simp [hix, MW.atI_nat, hg, hs]
      · rw [upFrom_length]
        rw [sizeLine_eq]; omega
    cases x with
    | non => simp -implicitDefEqProofs [m__law_same, runPure, b__law_same, startE, tyD, isT]
    | bl b => cases b <;> simp -implicitDefEqProofs [m__law_same, runPure, b__law_same, startE, tyD, isT]
    | int i => simp -implicitDefEqProofs [m__law_same, runPure, b__law_same, startE, tyD, isT]
    | str _ => exact h.elim
    | tup xs =>
      have := seq xs h.1 h.2 .tup (fun _ => rfl) (fun _ _ => rfl) (fun _ => rfl)
      simp -implicitDefEqProofs [m__law_same, runPure, b__law_same, startE, tyD, isT, this]
    | lst xs =>
      have := seq xs h.1 h.2 .lst (fun _ => rfl) (fun _ _ => rfl) (fun _ => rfl)
      simp -implicitDefEqProofs [m__law_same, runPure, b__law_same, startE, tyD, isT, this]
theorem low_loop (n : Nat) (S : Sto) (x y : Option W) : ∀ (a b : Nat), b < n → whileM (mTest (mBin (gNe) (mVar 3) (mC (.int 0)))) (sPar 2 3 (mCons (mVar 3) (mCons (mBin (gInt iMod) (mCall gToInt (mCons (mVar 2) mNil)) (mVar 3)) mNil))) n [x, y, some (.d (.int a)), some (.d (.int b))] S = some (.nx [x, y, some (.d (.int (Nat.gcd a b))), some (.d (.int 0))] S) := by
  induction n with
  | zero => intro a b h; omega
  | succ n ih =>
    intro a b h
    unfold whileM
    by_cases h0 : b = 0
    · subst h0
      simp
    · have h1 : 0 < (b : Int) := by omega
      have e : ((a : Int) % (b : Int)) = ((a % b : Nat) : Int) := by simp
      have hlt : a % b < b := Nat.mod_lt _ (by omega)
      simp [iMod_pos h1, h0]
      rw [e, ih b (a % b) (by omega), Nat.gcd_comm a b, Nat.gcd_rec b a, Nat.gcd_comm b]
theorem law_low_ok {a b : Int} {n : Nat} (hb : b ≠ 0) (h : b.natAbs < 2 ^ n) (hn : n ≤ 9000) (S : Sto) : m__law_low [.d (.int a), .d (.int b)] S = some (.d (fr (Rat.divInt a b)), S) := by
  have hgp : 0 < Nat.gcd a.natAbs b.natAbs := Nat.gcd_pos_of_pos_right _ (by omega)
  have hg : (Nat.gcd a.natAbs b.natAbs) ≤ b.natAbs := Nat.le_of_dvd (by omega) (Nat.gcd_dvd_right _ _)
  have hg9 : ((Nat.gcd a.natAbs b.natAbs : Nat) : Int).natAbs < 2 ^ 9000 := by
    rw [Int.natAbs_natCast]; exact Nat.lt_of_le_of_lt hg (pow9000 h hn)
  have dv : ∀ x : Int, iDiv x ((Nat.gcd a.natAbs b.natAbs : Nat) : Int) = some (.int (x / ((Nat.gcd a.natAbs b.natAbs : Nat) : Int))) := fun x => iDiv_b (by omega) hg9 (by decide) (Nat.le_refl _)
  have hs : (2 : Nat) ≤ sizeLine := by decide
  have e : Nat.gcd a.natAbs b.natAbs = b.gcd a := by rw [Int.gcd_eq_natAbs_gcd_natAbs, Nat.gcd_comm]
  have main : runPure 4 2 b__law_low [.int a, .int b] = some (fr (Rat.divInt a b)) := by
    rw [fr_eq, Rat.num_divInt, Rat.den_divInt, if_neg hb, ← e]
    have hl := low_loop (b.natAbs + 1) [] (some (.d (.int a))) (some (.d (.int b))) a.natAbs b.natAbs (by omega)
    have hnb : ((b.natAbs / Nat.gcd a.natAbs b.natAbs : Nat) : Int) = (b.natAbs : Int) / ((Nat.gcd a.natAbs b.natAbs : Nat) : Int) := by simp
    by_cases hp : 0 < b
    · have h2 : (b.natAbs : Int) = b := by omega
      rw [hnb, h2, Int.sign_eq_one_of_pos hp, Int.one_mul]
      simp [runPure, b__law_low, startE, sWhile, fuelAbs, hl, hp, dv, hs]
    · have h2 : (b.natAbs : Int) = -b := by omega
      rw [hnb, h2, Int.sign_eq_neg_one_of_neg (by omega), Int.neg_one_mul]
      simp [runPure, b__law_low, startE, sWhile, fuelAbs, hl, hp, dv, hs]
  show callP (runPure 4 2 b__law_low) [.d (.int a), .d (.int b)] S = _
  rw [callP_2, main]
  rfl
end K01
end
section
set_option maxRecDepth 100000
namespace K01
open PySem L2 MW
theorem pow_fits {x a b : Int} (h0 : 0 ≤ x) (h : x ≤ a) (hb : a < b) : x.natAbs < b.natAbs := by omega
theorem take_ok {S : Sto} {n c : Nat} {many : Int} (hB : Bx S n c) (hc : c < 1000000) (h0 : 0 < many) (h1 : many < 1073741824) :
    ∃ r o, m__law_take [.ref n, .d (.int many)] S = some (.d (.int r), S.set n o) ∧ 0 ≤ r ∧ r < many ∧ Bx (S.set n o) n (c + 1) := by
  have hl := hB.lt
  obtain ⟨b0, fl, sd, c', h2, h3, h4, h5, h6, h7⟩ := hB
  have hm : iDiv b0 many = some (.int (b0 / many)) := iDiv_b (a := 30) h0 (by omega) (by decide) (by decide)
  by_cases hf : fl = true ∧ 0 < b0
  · refine ⟨b0 % many, .lst [.int (b0 / many), .bl fl, .int sd, .int c'], ?_, Int.emod_nonneg _ (by omega), Int.emod_lt_of_pos _ h0, b0 / many, fl, sd, c', get_set hl, Int.ediv_nonneg h3 (by omega), h4, h5, h6, by omega⟩
    simp -implicitDefEqProofs [m__law_take, runDef, b__law_take, startE, gIx_ref h2, hf.1, hf.2, iMod_pos h0, hm, h2, ixN, fin]
  · have t0 : 0 ≤ sd + 15486029 * (c' + 1) + 179425109 := by omega
    have t1 : (sd + 15486029 * (c' + 1) + 179425109).natAbs < 2 ^ 64 := by omega
    have p5 : iPow (sd + 15486029 * (c' + 1) + 179425109) 5 = some (.int ((sd + 15486029 * (c' + 1) + 179425109) ^ 5)) := iPow_b (n := 5) (by decide) t1
    have m1 := iMod_pos (i := (sd + 15486029 * (c' + 1) + 179425109) ^ 5) (j := 2147483647) (by decide)
    have u0 := Int.emod_nonneg ((sd + 15486029 * (c' + 1) + 179425109) ^ 5) (b := 2147483647) (by decide)
    have u1 := Int.emod_lt_of_pos ((sd + 15486029 * (c' + 1) + 179425109) ^ 5) (b := 2147483647) (by decide)
    generalize hM : (sd + 15486029 * (c' + 1) + 179425109) ^ 5 % 2147483647 = mx at m1 u0 u1
    have t2 : (mx * 48271 + 8101 * (c' + 1)).natAbs < 2 ^ 64 := by omega
    have p3 : iPow (mx * 48271 + 8101 * (c' + 1)) 3 = some (.int ((mx * 48271 + 8101 * (c' + 1)) ^ 3)) := iPow_b (n := 3) (by decide) t2
    have m2 := iMod_pos (i := (mx * 48271 + 8101 * (c' + 1)) ^ 3) (j := 2147483587) (by decide)
    generalize (mx * 48271 + 8101 * (c' + 1)) ^ 3 % 2147483587 = my at m2
    have d1 : iDiv my 64 = some (.int (my / 64)) := iDiv_b (a := 7) (by decide) (by decide) (by decide) (by decide)
    have g1 : ∀ S : Sto, gMul .pure (.d (.int 15486029)) (.d (.int (c' + 1))) S = some (.d (.int (15486029 * (c' + 1))), S) := fun S => gMul_b (a := 24) (b := 24) (by decide) (by omega) (by decide) (by decide) (by decide)
    have g2 : ∀ S : Sto, gMul .pure (.d (.int mx)) (.d (.int 48271)) S = some (.d (.int (mx * 48271)), S) := fun S => gMul_b (a := 32) (b := 24) (by omega) (by decide) (by decide) (by decide) (by decide)
    have g3 : ∀ S : Sto, gMul .pure (.d (.int 8101)) (.d (.int (c' + 1))) S = some (.d (.int (8101 * (c' + 1))), S) := fun S => gMul_b (a := 24) (b := 24) (by decide) (by omega) (by decide) (by decide) (by decide)
    have gs := get_set (o := Ob.lst [.int b0, .bl fl, .int sd, .int (c' + 1)]) hl
    refine ⟨my / 64 % many, .lst [.int b0, .bl fl, .int sd, .int (c' + 1)], ?_, Int.emod_nonneg _ (by omega), Int.emod_lt_of_pos _ h0, b0, fl, sd, c' + 1, gs, h3, h4, h5, by omega, by omega⟩
    have hf' : ¬ (fl = true ∧ 0 < b0) := hf
    cases fl with
    | false => simp -implicitDefEqProofs [m__law_take, runDef, b__law_take, startE, gIx_ref h2, iMod_pos h0, h2, ixN, fin, gIx_ref gs, g1, g2, g3, p5, p3, m1, m2, d1]
    | true =>
      have hb : ¬ 0 < b0 := fun z => hf' ⟨rfl, z⟩
      simp -implicitDefEqProofs [m__law_take, runDef, b__law_take, startE, gIx_ref h2, iMod_pos h0, h2, ixN, fin, gIx_ref gs, g1, g2, g3, p5, p3, m1, m2, d1, hb]
theorem box_ok (b : Int) (S : Sto) : ∃ o, m__law_box [.d (.int b)] S = some (.ref S.length, S ++ [o]) ∧ Bx (S ++ [o]) S.length 0 := by
  have p : iPow 10 18 = some (.int 1000000000000000000) := iPow_b (n := 18) (by decide) (by decide)
  have m := iMod_pos (i := (b.natAbs : Int)) (j := 2147483629) (by decide)
  have u0 := Int.emod_nonneg (b.natAbs : Int) (b := 2147483629) (by decide)
  have u1 := Int.emod_lt_of_pos (b.natAbs : Int) (b := 2147483629) (by decide)
  have hs : 4 ≤ sizeLine := by rw [sizeLine_eq]; decide
  refine ⟨.lst [.int b.natAbs, .bl (decide ((1000000000000000000 : Int) ≤ b.natAbs)), .int ((b.natAbs : Int) % 2147483629), .int 0], ?_, (b.natAbs : Int), decide ((1000000000000000000 : Int) ≤ b.natAbs), (b.natAbs : Int) % 2147483629, 0, (by simp), by omega, u0, by omega, by omega, by omega⟩
  simp -implicitDefEqProofs [m__law_box, runDef, b__law_box, startE, p, m, hs, fin]
theorem cell_ok (ns : List Int) (k : Nat) (hk : k < 64) (S : Sto) : ∃ i, m__law_cell [.scr ns, .d (.int k)] S = some (.d (.int i), S) := by
  by_cases h : k < ns.length
  · have hx := gIx_scr h S
    exact ⟨ns[k], by simp -implicitDefEqProofs [m__law_cell, runDef, b__law_cell, startE, gLen_scr, hx, h, fin]⟩
  · have g : gMul .pure (.d (.int 7605)) (.d (.int k)) S = some (.d (.int (7605 * k)), S) := gMul_b (a := 24) (b := 24) (by decide) (by omega) (by decide) (by decide) (by decide)
    have m := iMod_pos (i := (ns.take 1).sum) (j := 1000003) (by decide)
    exact ⟨7605 * k + (ns.take 1).sum % 1000003, by simp -implicitDefEqProofs [-List.map_take, m__law_cell, runDef, b__law_cell, startE, gLen_scr, gSl_scr1, gSum_lst, g, m, h, fin]⟩
end K01
end
section
set_option maxRecDepth 100000
namespace K01
open PySem L2 MW
theorem p9 : iPow 10 9 = some (.int 1000000000) := iPow_b (n := 9) (by decide) (by decide)
theorem great_ok {S : Sto} {n c L : Nat} {digits : Int} (hB : Bx S n c) (hc : c + 64 < 1000000) (hd : 0 ≤ digits) (hL : max 1 (digits / 9) = (L : Int)) (hL0 : 0 < L) (hL3 : L ≤ 30) :
    ∃ r o, m__law_great [.ref n, .d (.int digits)] S = some (.d (.int r), S.set n o) ∧ 1 ≤ r ∧ r.natAbs < 2 ^ (4 + 30 * L) ∧ Bx (S.set n o) n (c + 2 + L) := by
  obtain ⟨a, o1, h1, h2, h3, h4⟩ := take_ok hB (by omega) (many := 9) (by decide) (by decide)
  obtain ⟨j, o2, h5, h6, h7, h8⟩ := take_ok h4 (by omega) (many := L) (by omega) (by omega)
  rw [set_set] at h5 h8
  have hdv : iDiv digits 9 = some (.int (digits / 9)) := iDiv_b (a := 4) (by decide) (by decide) (by decide) (by decide)
  obtain ⟨J, rfl⟩ : ∃ J : Nat, j = J := ⟨j.toNat, by omega⟩
  have hm : max (1 : Int) (digits / 9) = L := hL
  have loop := forM_ok (k := ⟨upFrom 0 J, none⟩) (g := mgName 3) (b := sAsg (mBin (gAdd .pure) (mBin (gMul .pure) (mVar 2) (mBin (gInt iPow) (mC (.int 10)) (mC (.int 9)))) (mCall m__law_take (mCons (mVar 0) (mCons (mBin (gInt iPow) (mC (.int 10)) (mC (.int 9))) mNil)))) (mgName 2))
    (fun rest env T => ∃ (f : Int) (o : Ob) (t : Option W), env = [some (.ref n), some (.d (.int digits)), some (.d (.int f)), t] ∧ T = S.set n o ∧ Bx (S.set n o) n (c + 2 + (J - rest.length)) ∧ 1 ≤ f ∧ f.natAbs < 2 ^ (4 + 30 * (J - rest.length)) ∧ rest.length ≤ J)
    (fun _ _ _ _ => rfl) (fun x rest env T hI => ?_) (upFrom 0 J) [some (.ref n), some (.d (.int digits)), some (.d (.int (1 + a))), none] (S.set n o2) ⟨1 + a, o2, none, rfl, rfl, by simpa using h8, by omega, by simp; omega, by simp⟩
  · obtain ⟨e', S', hf, f, o, t, rfl, rfl, hb, hf1, hf2, _⟩ := loop
    refine ⟨f, o, ?_, hf1, ?_, ?_⟩
    · have hr : (J : Int) < 4611686018427387904 := by omega
      simp -implicitDefEqProofs [m__law_great, runDef, b__law_great, startE, h1, hdv, hm, h5, miRange1, hr, hf, fin]
    · refine Nat.lt_of_lt_of_le hf2 (Nat.pow_le_pow_right (by decide) ?_)
      simp; omega
    · exact hb.mono (by simp; omega)
  · obtain ⟨f, o, t, rfl, rfl, hb, hf1, hf2, hl⟩ := hI
    simp only [List.length_cons] at hb hf2 hl
    obtain ⟨r, o3, k1, k2, k3, k4⟩ := take_ok hb (by omega) (many := 1000000000) (by decide) (by decide)
    rw [set_set] at k1 k4
    have gm : ∀ T : Sto, gMul .pure (.d (.int f)) (.d (.int 1000000000)) T = some (.d (.int (f * 1000000000)), T) := fun T => gMul_b (b := 30) hf2 (by decide) (by omega) (by decide) (by omega)
    refine ⟨[some (.ref n), some (.d (.int digits)), some (.d (.int f)), some (.d x)], S.set n o, [some (.ref n), some (.d (.int digits)), some (.d (.int (f * 1000000000 + r))), some (.d x)], S.set n o3, by simp, by simp -implicitDefEqProofs [p9, gm, k1], f * 1000000000 + r, o3, some (.d x), rfl, rfl, ?_, by omega, ?_, by omega⟩
    · exact k4.mono (by omega)
    · have e : 4 + 30 * (J - rest.length) = (4 + 30 * (J - (rest.length + 1))) + 30 := by omega
      rw [e, Nat.pow_add]
      generalize 2 ^ (4 + 30 * (J - (rest.length + 1))) = q at hf2
      omega
theorem pick_ok {S : Sto} {n c : Nat} {w : W} {xs : List D} (hB : Bx S n c) (hc : c < 1000000) (h : W.list S w = some xs) (hn : w ≠ .ref n) (h0 : 0 < xs.length) (h1 : xs.length < 1000000) :
    ∃ (k : Nat) (hk : k < xs.length) (o : Ob), m__law_pick [.ref n, w] S = some (.d xs[k], S.set n o) ∧ Bx (S.set n o) n (c + 1) := by
  obtain ⟨r, o, h2, h3, h4, h5⟩ := take_ok hB hc (many := xs.length) (by omega) (by omega)
  obtain ⟨k, rfl⟩ : ∃ k : Nat, r = k := ⟨r.toNat, by omega⟩
  have hk : k < xs.length := by omega
  refine ⟨k, hk, o, ?_, h5⟩
  have hg := get_lst (list_set (o := o) h hn) hk
  simp -implicitDefEqProofs [m__law_pick, runDef, b__law_pick, startE, len_lst h, h2, hg, fin]
theorem mixed_ok {S : Sto} {n c : Nat} {w : W} {xs : List D} (hB : Bx S n c) (hc : c + xs.length < 1000000) (h : W.list S w = some xs) (hn : w ≠ .ref n) :
    ∃ (ys : List D) (o : Ob), m__law_mixed [.ref n, w] S = some (.d (.lst ys), S.set n o) ∧ ys.Perm xs ∧ Bx (S.set n o) n (c + xs.length) := by
  have hl := hB.lt
  have hseq : W.seq S w = some xs := by unfold W.seq; rw [h]
  have hsz : xs.length < sizeLine := by rw [sizeLine_eq]; omega
  have loop := forM_ok (k := ⟨upFrom 0 xs.length, none⟩) (g := mgName 2) (b := sExpr (mMeth "list" gAppend (mVar 4) (mCons (mMeth "list" gPopAt (mVar 3) (mCons (mCall m__law_take (mCons (mVar 0) (mCons (mCall gLen (mCons (mVar 3) mNil)) mNil))) mNil)) mNil)))
    (fun rest env T => ∃ (o : Ob) (t : Option W) (as bs : List D), env = [some (.ref n), some w, t, some (.ref S.length), some (.ref (S.length + 1))] ∧ T = S.set n o ++ [.lst as, .lst bs] ∧ Bx (S.set n o) n (c + (xs.length - rest.length)) ∧ (bs ++ as).Perm xs ∧ as.length = rest.length)
    (fun _ _ _ _ => rfl) (fun x rest env T hI => ?_) (upFrom 0 xs.length) [some (.ref n), some w, none, some (.ref S.length), some (.ref (S.length + 1))] (S ++ [.lst xs, .lst []]) ?_
  · obtain ⟨e', S', hf, o, t, as, bs, rfl, rfl, hb, hp, ha⟩ := loop
    have ha : as = [] := List.length_eq_zero_iff.mp ha
    subst ha
    rw [List.append_nil] at hp
    refine ⟨bs, o, ?_, hp, hb.mono (by simp)⟩
    have hr : (xs.length : Int) < 4611686018427387904 := by omega
    have hlo : gListOf .own [w] S = some (.ref S.length, S ++ [.lst xs]) := by unfold gListOf; simp [hseq]
    have hln : gLen [w] (S ++ [.lst xs, .lst []]) = some (.d (.int xs.length), S ++ [.lst xs, .lst []]) := len_lst (list_app h)
    simp -implicitDefEqProofs [m__law_mixed, runDef, b__law_mixed, startE, hlo, hln, miRange1, hr, hf, fin]
  · obtain ⟨o, t, as, bs, rfl, rfl, hb, hp, ha⟩ := hI
    simp only [List.length_cons] at hb ha
    have hlen : (S.set n o).length = S.length := List.length_set
    have hxl : as.length ≤ xs.length := by
      have := hp.length_eq
      simp at this; omega
    have hbl : bs.length < 16777216 := by
      have := hp.length_eq
      simp at this; omega
    have ga := g2a (S.set n o) (.lst as) (.lst bs) hlen.symm
    have ll := len_lst (list_ref ga)
    obtain ⟨r, o2, k1, k2, k3, k4⟩ := take_ok (hb.app (T := [.lst as, .lst bs])) (by omega) (many := as.length) (by omega) (by omega)
    obtain ⟨k, rfl⟩ : ∃ k : Nat, r = k := ⟨r.toNat, by omega⟩
    have hk : k < as.length := by omega
    rw [set_app _ _ _ (by rw [hlen]; exact hl), set_set] at k1 k4
    have hlen2 : (S.set n o2).length = S.length := List.length_set
    have ga2 := g2a (S.set n o2) (.lst as) (.lst bs) hlen2.symm
    have pp := popAt_ref ga2 hk (by omega)
    rw [s2a _ _ _ _ hlen2.symm] at pp
    have gb := g2b (S.set n o2) (.lst (as.eraseIdx k)) (.lst bs) (n := S.length + 1) (by rw [hlen2])
    have ap := append_ref (x := as[k]) gb hbl
    rw [s2b _ _ _ _ (by rw [hlen2])] at ap
    have gb0 := g2b (S.set n o) (.lst as) (.lst bs) (n := S.length + 1) (by rw [hlen])
    refine ⟨[some (.ref n), some w, some (.d x), some (.ref S.length), some (.ref (S.length + 1))], _, [some (.ref n), some w, some (.d x), some (.ref S.length), some (.ref (S.length + 1))], S.set n o2 ++ [.lst (as.eraseIdx k), .lst (bs ++ [as[k]])], rfl, ?_, o2, some (.d x), as.eraseIdx k, bs ++ [as[k]], rfl, rfl, ?_, ?_, ?_⟩
    · simp -implicitDefEqProofs [ty_ref ga, ty_ref gb0, ll, k1, pp, ap]
    · exact (k4.of_app (by rw [hlen2]; exact hl)).mono (by omega)
    · refine List.Perm.trans ?_ hp
      rw [List.append_assoc]
      exact List.Perm.append_left bs (perm_erase hk).symm
    · rw [List.length_eraseIdx_of_lt hk]; omega
  · obtain ⟨b0, fl, sd, c', q1, q2⟩ := id hB
    refine ⟨.lst [.int b0, .bl fl, .int sd, .int c'], none, xs, [], rfl, ?_, ?_, by simp, by simp⟩
    · congr 1
      rw [List.getElem?_eq_getElem hl] at q1
      rw [← Option.some.inj q1, List.set_getElem_self]
    · have : S.set n (.lst [.int b0, .bl fl, .int sd, .int c']) = S := by
        rw [List.getElem?_eq_getElem hl] at q1
        rw [← Option.some.inj q1, List.set_getElem_self]
      rw [this]
      exact hB.mono (by omega)
end K01
end
section
set_option maxRecDepth 100000
namespace K01
open PySem L2 MW
/-- known fractions of at most 810 bits -/
def Frs (xs : List D) : Prop := ∀ x ∈ xs, ∃ r : Rat, x = fr r ∧ Sz r 810
theorem shpL {xs : List D} (h : ∀ x ∈ xs, ∃ r : Rat, x = fr r) : D.shp (.lst xs) = true := by
  have key : ∀ ys : List D, (∀ x ∈ ys, ∃ r : Rat, x = fr r) → PyData.canLayAll0 (D.pys ys) = true ∧ PyData.depthAll (D.pys ys) ≤ 2 := by
    intro ys
    induction ys with
    | nil => intro _; exact ⟨rfl, by show (0:Nat) ≤ 2; decide⟩
    | cons y ys ih =>
      intro hy
      obtain ⟨r, rfl⟩ := hy y List.mem_cons_self
      obtain ⟨a, b⟩ := ih fun x hx => hy x (List.mem_cons_of_mem _ hx)
      refine ⟨?_, ?_⟩
      · show (PyData.canLay0 (fr r).py && PyData.canLayAll0 (D.pys ys)) = true
        rw [a]; rfl
      · show max (PyData.depth (fr r).py) (PyData.depthAll (D.pys ys)) ≤ 2
        have : PyData.depth (fr r).py ≤ 2 := by show PyData.depth (.tuple [.int r.num, .int r.den]) ≤ 2; simp [PyData.depth, PyData.depthAll]
        omega
  obtain ⟨a, b⟩ := key xs h
  show (PyData.canLayAll0 (D.pys xs) && decide (PyData.depth (.list (D.pys xs)) ≤ 64)) = true
  rw [a, Bool.true_and, decide_eq_true_eq]
  simp only [PyData.depth]
  omega
theorem ne_nil {S : Sto} {w : W} {xs : List D} (h : W.list S w = some xs) (hs : D.shp (.lst xs) = true) (hw : ∀ x, w ≠ .d x) : gNe w (.d (.lst [])) S = some (.d (.bl (!xs.isEmpty)), S) := by
  have hp : W.py S w = some (.lst xs) := by
    cases w with
    | d x => exact absurd rfl (hw x)
    | scr ns => unfold W.py; simp [h]
    | ref n => unfold W.py; simp [h]
  have e : D.eqv (.lst xs) (.lst []) = xs.isEmpty := by
    cases xs with
    | nil => rfl
    | cons x xs => rfl
  unfold gNe
  rw [hp]
  simp only [Option.bind_some, W.py_d]
  rw [if_pos ⟨hs, rfl⟩, e]
theorem fr_int (i : Int) : fr (i : Rat) = .tup [.int i, .int 1] := rfl
theorem fr_zero : fr 0 = .tup [.int 0, .int 1] := rfl
theorem sz_int {i : Int} {n : Nat} (h : i.natAbs < 2 ^ n) (h0 : 0 < n) : Sz (i : Rat) n := ⟨h, by
  show 1 < 2 ^ n
  exact Nat.one_lt_two_pow (by omega)⟩
theorem pow_mono {x : Int} {a b : Nat} (h : x.natAbs < 2 ^ a) (hb : a ≤ b) : x.natAbs < 2 ^ b := Nat.lt_of_lt_of_le h (Nat.pow_le_pow_right (by decide) hb)
theorem sgn_b {x s : Int} {a : Nat} (h : x.natAbs < 2 ^ a) (hs : s = 1 ∨ s = -1) : (x * s).natAbs < 2 ^ a := by
  rcases hs with rfl | rfl
  · rw [Int.mul_one]; exact h
  · rw [Int.mul_neg, Int.mul_one, Int.natAbs_neg]; exact h
theorem gMul_sgn {mk : Mk} {x s : Int} {a : Nat} (h : x.natAbs < 2 ^ a) (ha : 0 < a) (ha2 : a ≤ 900000) (hs : s = 1 ∨ s = -1) (S : Sto) : gMul mk (.d (.int x)) (.d (.int s)) S = some (.d (.int (x * s)), S) :=
  gMul_b (b := 1) h (by rcases hs with rfl | rfl <;> decide) ha (by decide) (by omega)
theorem at2 (r : Int) (h0 : 0 ≤ r) (h1 : r < 2) : ∃ s : Int, atI [D.int 1, D.int (-1)] r = some (.int s) ∧ (s = 1 ∨ s = -1) := by
  have : r = 0 ∨ r = 1 := by omega
  rcases this with rfl | rfl
  · exact ⟨1, rfl, .inl rfl⟩
  · exact ⟨-1, rfl, .inr rfl⟩
theorem at3 (r : Int) (h0 : 0 ≤ r) (h1 : r < 3) : ∃ s : Int, atI [D.int 1, D.int 1, D.int (-1)] r = some (.int s) ∧ (s = 1 ∨ s = -1) := by
  have : r = 0 ∨ r = 1 ∨ r = 2 := by omega
  rcases this with rfl | rfl | rfl
  · exact ⟨1, rfl, .inl rfl⟩
  · exact ⟨1, rfl, .inl rfl⟩
  · exact ⟨-1, rfl, .inr rfl⟩
theorem atd (r : Int) (h0 : 0 ≤ r) (h1 : r < 3) : ∃ d : Int, ∃ L : Nat, atI [D.int 9, D.int 60, D.int 240] r = some (.int d) ∧ 0 ≤ d ∧ max 1 (d / 9) = (L : Int) ∧ 0 < L ∧ L ≤ 26 := by
  have : r = 0 ∨ r = 1 ∨ r = 2 := by omega
  rcases this with rfl | rfl | rfl
  · exact ⟨9, 1, rfl, by decide, by decide, by decide, by decide⟩
  · exact ⟨60, 6, rfl, by decide, by decide, by decide, by decide⟩
  · exact ⟨240, 26, rfl, by decide, by decide, by decide, by decide⟩
theorem sz3 : 3 ≤ sizeLine := by rw [sizeLine_eq]; decide
theorem sz2 : 2 ≤ sizeLine := by rw [sizeLine_eq]; decide
theorem p60 : iPow 10 60 = some (.int (10 ^ 60)) := iPow_b (n := 60) (by decide) (by decide)
theorem fraction_ok {S : Sto} {n c : Nat} {w : W} {xs : List D} (hB : Bx S n c) (hc : c + 200 < 1000000) (h : W.list S w = some xs) (hn : w ≠ .ref n) (hw : ∀ x, w ≠ .d x) (hf : Frs xs) (hl : xs.length < 1000) :
    ∃ (r : Rat) (o : Ob), m__law_fraction [.ref n, w] S = some (.d (fr r), S.set n o) ∧ Sz r 810 ∧ Bx (S.set n o) n (c + 200) := by
  obtain ⟨way, o1, h1, h2, h3, h4⟩ := take_ok hB (by omega) (many := 8) (by decide) (by decide)
  obtain ⟨dr, o2, h5, h6, h7, h8⟩ := take_ok h4 (by omega) (many := 3) (by decide) (by decide)
  rw [set_set] at h5 h8
  obtain ⟨d, L, ed, d0, dL, L0, L26⟩ := atd dr h6 h7
  have hne := ne_nil (list_set (o := o2) h hn) (shpL fun x hx => let ⟨r, e, _⟩ := hf x hx; ⟨r, e⟩) hw
  have start := sz3
  -- the last road
  have last : ∀ (o3 : Ob) (c3 : Nat), Bx (S.set n o3) n c3 → c3 ≤ c + 10 → ∃ (r : Rat) (o : Ob) (g1 s g2 t : Int) (o4 o5 : Ob), m__law_great [.ref n, .d (.int d)] (S.set n o3) = some (.d (.int g1), S.set n o4) ∧ m__law_take [.ref n, .d (.int 3)] (S.set n o4) = some (.d (.int t), S.set n o5) ∧
      atI [D.int 1, D.int 1, D.int (-1)] t = some (.int s) ∧ (∀ S : Sto, gMul .pure (.d (.int g1)) (.d (.int s)) S = some (.d (.int (g1 * s)), S)) ∧ m__law_great [.ref n, .d (.int d)] (S.set n o5) = some (.d (.int g2), S.set n o) ∧
      m__law_low [.d (.int (g1 * s)), .d (.int g2)] (S.set n o) = some (.d (fr r), S.set n o) ∧ Sz r 810 ∧ Bx (S.set n o) n (c + 200) := by
    intro o3 c3 b3 hc3
    obtain ⟨g1, o4, a1, a2, a3, a4⟩ := great_ok b3 (by omega) d0 dL L0 (by omega)
    rw [set_set] at a1 a4
    obtain ⟨t, o5, b1, b2, b3', b4⟩ := take_ok a4 (by omega) (many := 3) (by decide) (by decide)
    rw [set_set] at b1 b4
    obtain ⟨s, e1, e2⟩ := at3 t b2 b3'
    obtain ⟨g2, o, k1, k2, k3, k4⟩ := great_ok b4 (by omega) d0 dL L0 (by omega)
    rw [set_set] at k1 k4
    have q2 := pow_mono k3 (b := 810) (by omega)
    have q1 := pow_mono a3 (b := 810) (by omega)
    refine ⟨Rat.divInt (g1 * s) g2, o, g1, s, g2, t, o4, o5, a1, b1, e1, fun S => gMul_sgn q1 (by decide) (by decide) e2 S, k1, law_low_ok (by omega) q2 (by decide) _, sz_divInt (by omega) (sgn_b q1 e2) q2, k4.mono (by omega)⟩
  by_cases e0 : way = 0 ∧ xs ≠ []
  · obtain ⟨rfl, hx⟩ := e0
    have hlen : 0 < xs.length := List.length_pos_iff.mpr hx
    obtain ⟨k, hk, o3, k1, k2⟩ := pick_ok h8 (by omega) (list_set h hn) hn hlen (by omega)
    rw [set_set] at k1 k2
    obtain ⟨r, er, hr⟩ := hf _ (List.getElem_mem hk)
    rw [er] at k1
    refine ⟨r, o3, ?_, hr, k2.mono (by omega)⟩
    have hx' : xs.isEmpty = false := by simpa using hx
    simp -implicitDefEqProofs [m__law_fraction, runDef, b__law_fraction, startE, h1, h5, ed, start, hne, hx', k1, fin]
  · have c0 : (decide (way = 0) && !xs.isEmpty) = false := by
      cases hx : xs.isEmpty with
      | true => simp
      | false =>
        have : xs ≠ [] := by intro z; rw [z] at hx; cases hx
        have : ¬ way = 0 := fun z => e0 ⟨z, this⟩
        simp [this]
    by_cases e1 : way < 3 ∧ xs ≠ []
    · obtain ⟨hw3, hx⟩ := e1
      have hw0 : ¬ way = 0 := fun z => e0 ⟨z, hx⟩
      have hx' : xs.isEmpty = false := by simpa using hx
      have hlen : 0 < xs.length := List.length_pos_iff.mpr hx
      obtain ⟨k, hk, o3, k1, k2⟩ := pick_ok h8 (by omega) (list_set h hn) hn hlen (by omega)
      rw [set_set] at k1 k2
      obtain ⟨r, er, hr⟩ := hf _ (List.getElem_mem hk)
      rw [er, fr_eq] at k1
      have gw : ∀ S : Sto, gMul .pure (.d (.int (10 ^ 60))) (.d (.int (10 ^ 60))) S = some (.d (.int (10 ^ 120)), S) := fun S => gMul_b (a := 200) (b := 200) (by decide) (by decide) (by decide) (by decide) (by decide)
      by_cases hfar : (r.den : Int) < 10 ^ 120 ∧ (r.num.natAbs : Int) < 10 ^ 120
      · obtain ⟨u, o4, a1, a2, a3, a4⟩ := take_ok k2 (by omega) (many := 1000) (by decide) (by decide)
        rw [set_set] at a1 a4
        obtain ⟨t, o5, b1, b2, b3, b4⟩ := take_ok a4 (by omega) (many := 2) (by decide) (by decide)
        rw [set_set] at b1 b4
        obtain ⟨s, es, hs⟩ := at2 t b2 b3
        have hfb : ((10 : Int) ^ 120 + u).natAbs < 2 ^ 400 := by
          have e1 : (10 : Int) ^ 120 = 1000000000000000000000000000000000000000000000000000000000000000000000000000000000000000000000000000000000000000000000000 := by decide
          have e2 : (2 : Nat) ^ 400 = 2582249878086908589655919172003011874329705792829223512830659356540647622016841194629645353280137831435903171972747493376 := by decide
          rw [e1, e2]; omega
        have hb400 : (2 : Nat) ^ 400 = 2582249878086908589655919172003011874329705792829223512830659356540647622016841194629645353280137831435903171972747493376 := by decide
        have w120 : (10 : Int) ^ 120 = 1000000000000000000000000000000000000000000000000000000000000000000000000000000000000000000000000000000000000000000000000 := by decide
        have hn400 : r.num.natAbs < 2 ^ 400 := by rw [hb400]; have := hfar.2; rw [w120] at this; omega
        have hd400 : ((r.den : Nat) : Int).natAbs < 2 ^ 400 := by rw [hb400]; have := hfar.1; rw [w120] at this; omega
        have g1 : ∀ S : Sto, gMul .pure (.d (.int r.num)) (.d (.int (10 ^ 120 + u))) S = some (.d (.int (r.num * (10 ^ 120 + u))), S) := fun S => gMul_b hn400 hfb (by decide) (by decide) (by decide)
        have g2 : ∀ S : Sto, gMul .pure (.d (.int r.den)) (.d (.int (10 ^ 120 + u))) S = some (.d (.int (r.den * (10 ^ 120 + u))), S) := fun S => gMul_b hd400 hfb (by decide) (by decide) (by decide)
        have m1 : (r.num * (10 ^ 120 + u)).natAbs < 2 ^ 800 := by rw [Int.natAbs_mul]; exact pow_lt_mul hn400 hfb
        have m2 : (r.den * ((10 : Int) ^ 120 + u)).natAbs < 2 ^ 800 := by rw [Int.natAbs_mul]; exact pow_lt_mul hd400 hfb
        have m3 : (r.num * (10 ^ 120 + u) + s).natAbs < 2 ^ 810 := by
          have : (2 : Nat) ^ 810 = 2 ^ 800 * 1024 := by rw [← Nat.pow_add 2 800 10]
          rw [this]
          generalize (2 : Nat) ^ 800 = q at m1
          have : s.natAbs ≤ 1 := by rcases hs with rfl | rfl <;> decide
          omega
        have m4 : (r.den * ((10 : Int) ^ 120 + u)).natAbs < 2 ^ 810 := pow_mono m2 (by decide)
        have hne0 : (r.den * ((10 : Int) ^ 120 + u)) ≠ 0 := Int.mul_ne_zero (by exact_mod_cast r.den_nz) (by rw [w120]; omega)
        refine ⟨Rat.divInt (r.num * (10 ^ 120 + u) + s) (r.den * (10 ^ 120 + u)), o5, ?_, sz_divInt hne0 m3 m4, b4.mono (by omega)⟩
        have low := law_low_ok (a := r.num * (10 ^ 120 + u) + s) hne0 m4 (by decide) (S.set n o5)
        simp -implicitDefEqProofs [-Int.reducePow, m__law_fraction, runDef, b__law_fraction, startE, h1, h5, ed, start, sz2, hne, hx', hw0, hw3, k1, p60, gw, hfar.1, hfar.2, a1, g1, b1, es, g2, low, fin]
      · obtain ⟨r', o, g1, s, g2, t, o4, o5, a1, a2, a3, a4, a5, a6, a7, a8⟩ := last o3 _ k2 (by omega)
        refine ⟨r', o, ?_, a7, a8⟩
        have n3 : ¬ way = 3 := by omega
        have n4 : ¬ way = 4 := by omega
        by_cases hq : (r.den : Int) < 10 ^ 120
        · have hq2 : ¬ (r.num.natAbs : Int) < 10 ^ 120 := fun z => hfar ⟨hq, z⟩
          simp -implicitDefEqProofs [-Int.reducePow, m__law_fraction, runDef, b__law_fraction, startE, h1, h5, ed, start, sz2, hne, hx', hw0, hw3, k1, p60, gw, hq, hq2, n3, n4, a1, a2, a3, a4, a5, a6, fin]
        · simp -implicitDefEqProofs [-Int.reducePow, m__law_fraction, runDef, b__law_fraction, startE, h1, h5, ed, start, sz2, hne, hx', hw0, hw3, k1, p60, gw, hq, n3, n4, a1, a2, a3, a4, a5, a6, fin]
    · have hcond : xs = [] ∨ 3 ≤ way := by
        by_cases hx : xs = []
        · exact .inl hx
        · exact .inr (by
            have : ¬ way < 3 := fun z => e1 ⟨z, hx⟩
            omega)
      by_cases n3 : way = 3
      · subst n3
        obtain ⟨g, o4, a1, a2, a3, a4⟩ := great_ok h8 (by omega) d0 dL L0 (by omega)
        rw [set_set] at a1 a4
        obtain ⟨t, o5, b1, b2, b3, b4⟩ := take_ok a4 (by omega) (many := 2) (by decide) (by decide)
        rw [set_set] at b1 b4
        obtain ⟨s, es, hs⟩ := at2 t b2 b3
        have q := pow_mono a3 (b := 810) (by omega)
        refine ⟨((g * s : Int) : Rat), o5, ?_, sz_int (sgn_b q hs) (by decide), b4.mono (by omega)⟩
        rw [fr_int]
        simp -implicitDefEqProofs [m__law_fraction, runDef, b__law_fraction, startE, h1, h5, ed, start, sz2, hne, a1, b1, es, gMul_sgn q (by decide) (by decide) hs, fin]
      · by_cases n4 : way = 4
        · subst n4
          refine ⟨0, o2, ?_, ⟨by decide, by decide⟩, h8.mono (by omega)⟩
          rw [fr_zero]
          simp -implicitDefEqProofs [m__law_fraction, runDef, b__law_fraction, startE, h1, h5, ed, start, sz2, hne, fin]
        · obtain ⟨r', o, g1, s, g2, t, o4, o5, a1, a2, a3, a4, a5, a6, a7, a8⟩ := last o2 _ h8 (by omega)
          refine ⟨r', o, ?_, a7, a8⟩
          rcases hcond with rfl | hw
          · by_cases hw0 : way = 0 <;> by_cases hw3 : way < 3 <;>
              simp -implicitDefEqProofs [m__law_fraction, runDef, b__law_fraction, startE, h1, h5, ed, start, sz2, hne, hw0, hw3, n3, n4, a1, a2, a3, a4, a5, a6, fin]
          · have hw0 : ¬ way = 0 := by omega
            have hw3 : ¬ way < 3 := by omega
            simp -implicitDefEqProofs [m__law_fraction, runDef, b__law_fraction, startE, h1, h5, ed, start, sz2, hne, hw0, hw3, n3, n4, a1, a2, a3, a4, a5, a6, fin]
end K01
end
section
set_option maxRecDepth 100000
namespace K01
open PySem L2 MW
theorem law_add_ok {r s : Rat} {n m : Nat} (hr : Sz r n) (hs : Sz s m) (h : n + m ≤ 9000) (h1 : 0 < n) (h2 : 0 < m) (S : Sto) : m__law_add [.d (fr r), .d (fr s)] S = some (.d (fr (r + s)), S) := by
  have q1 := gMul_b (mk := .pure) (S := ([] : Sto)) hr.num (nat_b hs.den) h1 h2 (by omega)
  have q2 := gMul_b (mk := .pure) (S := ([] : Sto)) hs.num (nat_b hr.den) h2 h1 (by omega)
  have q3 := gMul_b (mk := .pure) (S := ([] : Sto)) (nat_b hr.den) (nat_b hs.den) h1 h2 (by omega)
  have hd : (r.den : Int) * s.den ≠ 0 := by exact_mod_cast Nat.ne_of_gt (Nat.mul_pos r.den_pos s.den_pos)
  have hz : ((r.den : Int) * s.den).natAbs < 2 ^ (n + m) := by rw [Int.natAbs_mul]; exact pow_lt_mul (nat_b hr.den) (nat_b hs.den)
  have q4 := law_low_ok (a := r.num * s.den + s.num * r.den) hd hz h ([] : Sto)
  rw [← add_divInt] at q4
  simp -implicitDefEqProofs [m__law_add, runPure, b__law_add, startE, fr_eq, q1, q2, q3] at q4 ⊢
  simp [q4]
theorem law_less_ok {r s : Rat} {n m : Nat} (hr : Sz r n) (hs : Sz s m) (h : n + m ≤ 9000) (h1 : 0 < n) (h2 : 0 < m) (S : Sto) : m__law_less [.d (fr r), .d (fr s)] S = some (.d (fr (r - s)), S) := by
  have q1 := gMul_b (mk := .pure) (S := ([] : Sto)) hr.num (nat_b hs.den) h1 h2 (by omega)
  have q2 := gMul_b (mk := .pure) (S := ([] : Sto)) hs.num (nat_b hr.den) h2 h1 (by omega)
  have q3 := gMul_b (mk := .pure) (S := ([] : Sto)) (nat_b hr.den) (nat_b hs.den) h1 h2 (by omega)
  have hd : (r.den : Int) * s.den ≠ 0 := by exact_mod_cast Nat.ne_of_gt (Nat.mul_pos r.den_pos s.den_pos)
  have hz : ((r.den : Int) * s.den).natAbs < 2 ^ (n + m) := by rw [Int.natAbs_mul]; exact pow_lt_mul (nat_b hr.den) (nat_b hs.den)
  have q4 := law_low_ok (a := r.num * s.den - s.num * r.den) hd hz h ([] : Sto)
  rw [← sub_divInt] at q4
  simp -implicitDefEqProofs [m__law_less, runPure, b__law_less, startE, fr_eq, q1, q2, q3] at q4 ⊢
  simp [q4]
theorem law_times_ok {r s : Rat} {n m : Nat} (hr : Sz r n) (hs : Sz s m) (h : n + m ≤ 9000) (h1 : 0 < n) (h2 : 0 < m) (S : Sto) : m__law_times [.d (fr r), .d (fr s)] S = some (.d (fr (r * s)), S) := by
  have q1 := gMul_b (mk := .pure) (S := ([] : Sto)) hr.num hs.num h1 h2 (by omega)
  have q3 := gMul_b (mk := .pure) (S := ([] : Sto)) (nat_b hr.den) (nat_b hs.den) h1 h2 (by omega)
  have hd : (r.den : Int) * s.den ≠ 0 := by exact_mod_cast Nat.ne_of_gt (Nat.mul_pos r.den_pos s.den_pos)
  have hz : ((r.den : Int) * s.den).natAbs < 2 ^ (n + m) := by rw [Int.natAbs_mul]; exact pow_lt_mul (nat_b hr.den) (nat_b hs.den)
  have q4 := law_low_ok (a := r.num * s.num) hd hz h ([] : Sto)
  rw [← mul_divInt] at q4
  simp -implicitDefEqProofs [m__law_times, runPure, b__law_times, startE, fr_eq, q1, q3] at q4 ⊢
  simp [q4]
theorem law_over_ok {r s : Rat} {n m : Nat} (hr : Sz r n) (hs : Sz s m) (hs0 : s ≠ 0) (h : n + m ≤ 9000) (h1 : 0 < n) (h2 : 0 < m) (S : Sto) : m__law_over [.d (fr r), .d (fr s)] S = some (.d (fr (r / s)), S) := by
  have q1 := gMul_b (mk := .pure) (S := ([] : Sto)) hr.num (nat_b hs.den) h1 h2 (by omega)
  have q3 := gMul_b (mk := .pure) (S := ([] : Sto)) (nat_b hr.den) hs.num h1 h2 (by omega)
  have hd : (r.den : Int) * s.num ≠ 0 := Int.mul_ne_zero (by exact_mod_cast r.den_nz) (num_ne hs0)
  have hz : ((r.den : Int) * s.num).natAbs < 2 ^ (n + m) := by rw [Int.natAbs_mul]; exact pow_lt_mul (nat_b hr.den) hs.num
  have q4 := law_low_ok (a := r.num * s.den) hd hz h ([] : Sto)
  rw [← div_divInt] at q4
  simp -implicitDefEqProofs [m__law_over, runPure, b__law_over, startE, fr_eq, q1, q3] at q4 ⊢
  simp [q4]
theorem law_under_ok {r s : Rat} {n m : Nat} (hr : Sz r n) (hs : Sz s m) (h : n + m ≤ 9000) (h1 : 0 < n) (h2 : 0 < m) (S : Sto) : m__law_under [.d (fr r), .d (fr s)] S = some (.d (.bl (decide (r < s))), S) := by
  have q1 := gMul_b (mk := .pure) (S := ([] : Sto)) hr.num (nat_b hs.den) h1 h2 (by omega)
  have q2 := gMul_b (mk := .pure) (S := ([] : Sto)) hs.num (nat_b hr.den) h2 h1 (by omega)
  simp -implicitDefEqProofs [m__law_under, runPure, b__law_under, startE, fr_eq, q1, q2, Rat.lt_iff]
theorem law_order_ok {r s : Rat} {n m : Nat} (hr : Sz r n) (hs : Sz s m) (h : n + m ≤ 9000) (h1 : 0 < n) (h2 : 0 < m) (S : Sto) : m__law_order [.d (fr r), .d (fr s)] S = some (.d (.int (ord r s)), S) := by
  have u1 := law_under_ok hr hs h h1 h2 ([] : Sto)
  have u2 := law_under_ok hs hr (by omega) h2 h1 ([] : Sto)
  have e : (if s < r then 1 else 0 : Int) - (if r < s then 1 else 0) = ord r s := by
    unfold ord
    by_cases e : r = s
    · subst e; simp
    · by_cases l : r < s
      · have : ¬ s < r := Rat.not_lt.mpr (Rat.le_of_lt l)
        simp [e, l, this]
      · have : s < r := by
          rcases Rat.le_total (a := r) (b := s) with z | z
          · exact absurd (Rat.lt_of_le_of_ne z e) l
          · exact Rat.lt_of_le_of_ne z (Ne.symm e)
        simp [e, l, this]
  simp -implicitDefEqProofs [m__law_order, runPure, b__law_order, startE, u1, u2]
  exact e
theorem is_chance_fr (r : Rat) (S : Sto) : m_is_chance [.d (fr r)] S = some (.d (.bl (decide (0 ≤ r.num) && decide (r.num ≤ r.den))), S) := by
  rw [fr_eq, is_chance_pair]
  have h1 := r.den_pos
  have h2 : Nat.gcd r.num.natAbs r.den = 1 := r.reduced
  simp [h1, h2]
theorem kg1 {α : Type} (x : α) : kg 0 1 [0] [] [x] = [x] := rfl
theorem kg10 {α : Type} (x y : α) : kg 0 2 [1, 0] [] [x, y] = [y, x] := rfl
theorem kg01 {α : Type} (x y : α) : kg 0 2 [0, 1] [] [x, y] = [x, y] := rfl
theorem okD_fr (r : Rat) (n : Nat) : okD (n + 2) (fr r) := ⟨by simp, fun x hx => by
  rcases List.mem_cons.mp hx with rfl | hx
  · trivial
  · rcases List.mem_cons.mp hx with rfl | hx
    · trivial
    · cases hx⟩
theorem okD_lst {n : Nat} {xs : List D} (h : xs.length ≤ 100000) (k : ∀ x ∈ xs, okD n x) : okD (n + 1) (.lst xs) := ⟨h, k⟩
theorem sz4 : 4 ≤ sizeLine := by rw [sizeLine_eq]; decide
theorem two_right_ok {r s : Rat} (hr : Sz r 810) (hs : Sz s 810) (b : Bool) (S : Sto) : m__law_two_right [.d (fr r), .d (fr s), .d (.bl b)] S = some (.d (.bl true), S) := by
  have A := law_add_ok hr hs (by decide) (by decide) (by decide) ([] : Sto)
  have B := law_less_ok hr hs (by decide) (by decide) (by decide) ([] : Sto)
  have C := law_times_ok hr hs (by decide) (by decide) (by decide) ([] : Sto)
  have E := law_order_ok hr hs (by decide) (by decide) (by decide) ([] : Sto)
  have A' := plus_ok hr hs (by decide) (by decide) (by decide) ([] : Sto)
  have B' := minus_ok hr hs (by decide) (by decide) (by decide) ([] : Sto)
  have C' := times_ok hr hs (by decide) (by decide) (by decide) ([] : Sto)
  have E' := compared_ok hr hs (by decide) (by decide) (by decide) ([] : Sto)
  have L1 := law_same_refl 4 (.lst [fr (r + s), fr (r - s), fr (r * s), .int (ord r s)]) ([] : Sto) (okD_lst (by simp) (by
    intro x hx
    simp only [List.mem_cons, List.not_mem_nil, or_false] at hx
    rcases hx with rfl | rfl | rfl | rfl
    · exact okD_fr _ _
    · exact okD_fr _ _
    · exact okD_fr _ _
    · trivial))
  have L2 : ∀ b c : Bool, m__law_same 4 [.d (.lst [.bl b, .bl c]), .d (.lst [.bl b, .bl c])] ([] : Sto) = some (.d (.bl true), []) := fun b c => law_same_refl 4 _ _ (okD_lst (by simp) (by
    intro x hx
    simp only [List.mem_cons, List.not_mem_nil, or_false] at hx
    rcases hx with rfl | rfl <;> trivial))
  have F1 := is_fraction_fr r ([] : Sto)
  have F2 := is_chance_fr r ([] : Sto)
  have G0 : gIx (.d (fr s)) (.d (.int 0)) ([] : Sto) = some (.d (.int s.num), []) := by simp [fr_eq]
  have G1 : gIx (.d (fr r)) (.d (.int 0)) ([] : Sto) = some (.d (.int r.num), []) := by simp [fr_eq]
  have G2 : gIx (.d (fr r)) (.d (.int 1)) ([] : Sto) = some (.d (.int r.den), []) := by simp [fr_eq]
  by_cases h0 : s = 0
  · have h0' : s.num = 0 := Rat.num_eq_zero.mpr h0
    by_cases hp : 0 ≤ r.num <;> cases b <;> simp -implicitDefEqProofs [m__law_two_right, runPure, b__law_two_right, startE, A, B, C, E, A', B', C', E', sz4, sz2, L1, kg10, kg1, G0, G1, G2, F1, F2, hp, h0', L2]
  · have O := law_over_ok hr hs h0 (by decide) (by decide) (by decide) ([] : Sto)
    have O' := over_ok hr hs h0 (by decide) (by decide) (by decide) ([] : Sto)
    have L3 := law_same_refl 4 (fr (r / s)) ([] : Sto) (okD_fr _ _)
    have h0' := num_ne h0
    by_cases hp : 0 ≤ r.num <;> cases b <;> simp -implicitDefEqProofs [m__law_two_right, runPure, b__law_two_right, startE, A, B, C, E, A', B', C', E', sz4, sz2, L1, kg10, kg1, G0, G1, G2, F1, F2, hp, h0', O, O', L3, L2]
end K01
end
section
set_option maxRecDepth 100000
namespace K01
open PySem L2 MW
theorem ord_add (a b c : Rat) : ord (a + c) (b + c) = ord a b := by
  unfold ord
  have h1 : a + c = b + c ↔ a = b := ⟨fun h => by grind, fun h => by rw [h]⟩
  have h2 : a + c < b + c ↔ a < b := by grind
  simp only [h1, h2]
def sgn (c : Rat) : Int := (if 0 < c.num then 1 else 0) - (if c.num < 0 then 1 else 0)
theorem num_pos_iff (c : Rat) : 0 < c.num ↔ 0 < c := by
  have h1 := Rat.num_nonneg (q := c)
  have h2 := Rat.num_eq_zero (q := c)
  constructor
  · intro h
    have : 0 ≤ c := h1.mp (by omega)
    have : c ≠ 0 := fun z => by rw [h2.mpr z] at h; exact absurd h (by decide)
    grind
  · intro h
    have a : 0 ≤ c.num := h1.mpr (by grind)
    have b : c.num ≠ 0 := fun z => by have := h2.mp z; grind
    omega
theorem num_neg_iff (c : Rat) : c.num < 0 ↔ c < 0 := by
  have h1 := Rat.num_nonneg (q := c)
  constructor
  · intro h
    have : ¬ 0 ≤ c := fun z => by have := h1.mpr z; omega
    grind
  · intro h
    have : ¬ 0 ≤ c.num := fun z => by have := h1.mp z; grind
    omega
theorem ord_mul (a b c : Rat) : ord (a * c) (b * c) = ord a b * sgn c := by
  unfold ord sgn
  simp only [num_pos_iff, num_neg_iff]
  have tri : c < 0 ∨ c = 0 ∨ 0 < c := by grind
  rcases tri with h | h | h
  · have h0 : ¬ 0 < c := by grind
    have h1 : a * c = b * c ↔ a = b := ⟨fun z => by
      have : (a - b) * c = 0 := by grind
      rcases Rat.mul_eq_zero.mp this with q | q <;> grind, fun z => by rw [z]⟩
    have h2 : a * c < b * c ↔ b < a := by
      constructor
      · intro z
        have hn : ¬ a ≤ b := fun q => by
          have := Rat.mul_le_mul_of_nonneg_right q (show (0 : Rat) ≤ -c by grind)
          grind
        grind
      · intro z
        have := Rat.mul_lt_mul_of_pos_right z (show (0 : Rat) < -c by grind)
        grind
    simp only [h1, h2, h, h0, if_true, if_false]
    by_cases e : a = b
    · simp [e]
    · by_cases l : a < b
      · have : ¬ b < a := by grind
        simp [e, l, this]
      · have : b < a := by grind
        simp [e, l, this]
  · subst h
    simp
  · have h0 : ¬ c < 0 := by grind
    have h1 : a * c = b * c ↔ a = b := ⟨fun z => by
      have : (a - b) * c = 0 := by grind
      rcases Rat.mul_eq_zero.mp this with q | q <;> grind, fun z => by rw [z]⟩
    have h2 : a * c < b * c ↔ a < b := by
      constructor
      · intro z
        have hn : ¬ b ≤ a := fun q => by
          have := Rat.mul_le_mul_of_nonneg_right q (show (0 : Rat) ≤ c by grind)
          grind
        grind
      · intro z
        exact Rat.mul_lt_mul_of_pos_right z h
    simp only [h1, h2, h, h0, if_true, if_false]
    simp
theorem ord_b (a b : Rat) : (ord a b).natAbs < 2 ^ 2 := by
  unfold ord
  split
  · decide
  · split <;> decide
theorem sgn_b2 (c : Rat) : (sgn c).natAbs < 2 ^ 2 := by
  unfold sgn
  split <;> split <;> decide
theorem three_right_ok {a b c : Rat} (ha : Sz a 810) (hb : Sz b 810) (hc : Sz c 810) (nm : Bool) (S : Sto) : m__law_three_right [.d (fr a), .d (fr b), .d (fr c), .d (.bl nm)] S = some (.d (.bl true), S) := by
  have A := law_add_ok ha hb (by decide) (by decide) (by decide) ([] : Sto)
  have B := law_times_ok (ha.add hb) hc (by decide) (by decide) (by decide) ([] : Sto)
  have P1 := plus_ok ha hb (by decide) (by decide) (by decide) ([] : Sto)
  have P2 := times_ok (ha.add hb) hc (by decide) (by decide) (by decide) ([] : Sto)
  have P3 := times_ok ha hc (by decide) (by decide) (by decide) ([] : Sto)
  have P4 := times_ok hb hc (by decide) (by decide) (by decide) ([] : Sto)
  have P5 := plus_ok (ha.mul hc) (hb.mul hc) (by decide) (by decide) (by decide) ([] : Sto)
  have P6 := plus_ok ha hc (by decide) (by decide) (by decide) ([] : Sto)
  have P7 := minus_ok hc hb (by decide) (by decide) (by decide) ([] : Sto)
  have P8 := minus_ok (ha.add hc) (hc.sub hb) (by decide) (by decide) (by decide) ([] : Sto)
  have P9 := plus_ok hb hc (by decide) (by decide) (by decide) ([] : Sto)
  have C1 := compared_ok (ha.add hc) (hb.add hc) (by decide) (by decide) (by decide) ([] : Sto)
  have C2 := compared_ok (ha.mul hc) (hb.mul hc) (by decide) (by decide) (by decide) ([] : Sto)
  have O := law_order_ok ha hb (by decide) (by decide) (by decide) ([] : Sto)
  have e1 : a * c + b * c = (a + b) * c := by grind
  have e2 : a + c - (c - b) = a + b := by grind
  rw [e1] at P5
  rw [e2] at P8
  rw [ord_add] at C1
  rw [ord_mul] at C2
  have L1 := law_same_refl 4 (.lst [fr ((a + b) * c), fr ((a + b) * c), fr (a + b)]) ([] : Sto) (okD_lst (by simp) (by
    intro x hx
    simp only [List.mem_cons, List.not_mem_nil, or_false] at hx
    rcases hx with rfl | rfl | rfl
    · exact okD_fr _ _
    · exact okD_fr _ _
    · exact okD_fr _ _))
  have L2 := law_same_refl 4 (.lst [.int (ord a b), .int (ord a b * sgn c)]) ([] : Sto) (okD_lst (by simp) (by
    intro x hx
    simp only [List.mem_cons, List.not_mem_nil, or_false] at hx
    rcases hx with rfl | rfl <;> trivial))
  have G0 : gIx (.d (fr c)) (.d (.int 0)) ([] : Sto) = some (.d (.int c.num), []) := by simp [fr_eq]
  have M : gMul .pure (.d (.int (ord a b))) (.d (.int (sgn c))) ([] : Sto) = some (.d (.int (ord a b * sgn c)), []) := gMul_b (ord_b a b) (sgn_b2 c) (by decide) (by decide) (by decide)
  have hs : (if 0 < c.num then 1 else 0 : Int) - (if c.num < 0 then 1 else 0) = sgn c := rfl
  cases nm <;> simp -implicitDefEqProofs [m__law_three_right, runPure, b__law_three_right, startE, A, B, P1, P2, P3, P4, P5, P6, P7, P8, P9, C1, C2, O, sz3, sz2, L1, L2, kg10, kg01, G0, hs, M]
end K01
end
section
set_option maxRecDepth 100000
namespace K01
open PySem L2 MW
/-- the value of a fraction -/
def rv : D → Rat
  | .tup [.int a, .int b] => Rat.divInt a b
  | _ => 0
theorem rv_fr (r : Rat) : rv (fr r) = r := by
  show Rat.divInt r.num r.den = r
  exact Rat.num_divInt_den r
theorem Frs.eq {xs : List D} (h : Frs xs) {x : D} (hx : x ∈ xs) : x = fr (rv x) ∧ Sz (rv x) 810 := by
  obtain ⟨r, e, hz⟩ := h x hx
  rw [e, rv_fr]
  exact ⟨rfl, hz⟩
theorem Frs.perm {xs ys : List D} (h : Frs xs) (p : ys.Perm xs) : Frs ys := fun x hx => h x (p.mem_iff.mp hx)
def psum : List D → Rat
  | [] => 0
  | x :: xs => rv x + psum xs
def pprod : List D → Rat
  | [] => 1
  | x :: xs => rv x * pprod xs
theorem psum_perm {xs ys : List D} (p : xs.Perm ys) : psum xs = psum ys := by
  induction p with
  | nil => rfl
  | cons x _ ih => simp [psum, ih]
  | swap x y l => simp only [psum]; grind
  | trans _ _ a b => rw [a, b]
theorem pprod_perm {xs ys : List D} (p : xs.Perm ys) : pprod xs = pprod ys := by
  induction p with
  | nil => rfl
  | cons x _ ih => simp [pprod, ih]
  | swap x y l => simp only [pprod]; grind
  | trans _ _ a b => rw [a, b]
theorem sz_prod {xs : List D} (h : Frs xs) : Sz (pprod xs) (1 + 810 * xs.length) := by
  induction xs with
  | nil => exact ⟨by decide, by decide⟩
  | cons x xs ih =>
    have h1 := (h.eq List.mem_cons_self).2
    have h2 := ih fun y hy => h y (List.mem_cons_of_mem _ hy)
    exact (h1.mul h2).mono (by simp; omega)
theorem dl1 (xs : List D) : W.tup (.d (.lst xs)) = none := (rfl : _ = _).trans rfl
theorem dl2 (S : Sto) (xs : List D) : W.list S (.d (.lst xs)) = some xs := (rfl : _ = _).trans rfl
theorem dl3 (xs : List D) : W.lock (.d (.lst xs)) xs = none := (rfl : _ = _).trans rfl
theorem miSeq_list {f : ME} {env : MW.Env} {S S1 : Sto} {w : W} {xs : List D} (h : f env S = some (w, S1)) (hl : W.list S1 w = some xs) (ht : W.tup w = none) : miSeq f env S = some (⟨xs, w.lock xs⟩, S1) := by
  unfold miSeq wkL
  simp [h, ht, hl]
theorem lock_ok {S : Sto} {w : W} {xs : List D} (hl : W.list S w = some xs) : Wk.ok ⟨xs, w.lock xs⟩ S = true := by
  cases w with
  | d x => rfl
  | scr ns => rfl
  | ref n =>
    have h' : (match S[n]? with | some (.lst xs) => some xs | _ => none) = some xs := hl
    show (match S[n]? with | some (.lst ys) => D.beqs ys xs | _ => false) = true
    cases q : S[n]? with
    | none => rw [q] at h'; cases h'
    | some o =>
      cases o with
      | dead => rw [q] at h'; cases h'
      | lst ys => rw [q] at h'; cases h'; exact D.beqs_refl _
theorem one_fr : fr 1 = .tup [.int 1, .int 1] := rfl
theorem szz : Sz 0 1 := ⟨by decide, by decide⟩
theorem szo : Sz 1 1 := ⟨by decide, by decide⟩
/-- sums and products of a row, kept between two turns -/
structure Row (all rest : List D) (t p : Rat) : Prop where
  et : t + psum rest = psum all
  ep : p * pprod rest = pprod all
  le : rest.length ≤ all.length
  st : Sz t (1 + 811 * (all.length - rest.length))
  sp : Sz p (1 + 810 * (all.length - rest.length))
  fs : Frs rest
theorem Row.start {all : List D} (h : Frs all) : Row all all 0 1 := ⟨by grind, by grind, Nat.le_refl _, by simpa using szz, by simpa using szo, h⟩
theorem Row.next {all rest : List D} {x : D} {t p : Rat} (h : Row all (x :: rest) t p) : Row all rest (t + rv x) (p * rv x) := by
  have hx := (h.fs.eq List.mem_cons_self).2
  have h1 := h.et
  have h2 := h.ep
  have h3 := h.le
  simp only [psum, pprod, List.length_cons] at h1 h2 h3
  have q1 := h.st.add hx
  have q2 := h.sp.mul hx
  simp only [List.length_cons] at q1 q2
  refine ⟨by grind, by grind, by omega, q1.mono (by omega), q2.mono (by omega), fun y hy => h.fs y (List.mem_cons_of_mem _ hy)⟩
theorem Row.done {all : List D} {t p : Rat} (h : Row all [] t p) : t = psum all ∧ p = pprod all := by
  have h1 := h.et
  have h2 := h.ep
  simp only [psum, pprod] at h1 h2
  exact ⟨by grind, by grind⟩
theorem _root_.MW.Bx.self {S : Sto} {n c : Nat} (h : Bx S n c) : ∃ o, S.set n o = S := by
  obtain ⟨b0, fl, sd, c', q1, q2⟩ := id h
  have hl := h.lt
  rw [List.getElem?_eq_getElem hl] at q1
  exact ⟨S[n], List.set_getElem_self _⟩
theorem rows_right_ok {S : Sto} {n c : Nat} {w : W} {xs : List D} (hB : Bx S n c) (hc : c + 100 < 1000000) (h : W.list S w = some xs) (hn : w ≠ .ref n) (ht : W.tup w = none) (hf : Frs xs) (hl : xs.length ≤ 7) (b : Bool) :
    ∃ o, m__law_rows_right [.ref n, w, .d (.bl b)] S = some (.d (.bl true), S.set n o) ∧ Bx (S.set n o) n (c + 50) := by
  -- the row as it stands
  have l1 := forM_ok (k := ⟨xs, w.lock xs⟩) (g := mgName 3) (b := sPar 5 6 (mCons (mCall m__law_add (mCons (mVar 5) (mCons (mVar 3) mNil))) (mCons (mCall m__law_times (mCons (mVar 6) (mCons (mVar 3) mNil))) mNil)))
    (fun rest env T => ∃ (t p : Rat) (v : Option W), env = [some (.ref n), some w, some (.d (.bl b)), v, none, some (.d (fr t)), some (.d (fr p)), none, none] ∧ S = T ∧ Row xs rest t p)
    (fun _ _ _ ⟨_, _, _, _, e, _⟩ => by rw [← e]; exact lock_ok h) (fun x rest env T hI => by
      obtain ⟨t, p, v, rfl, rfl, hr⟩ := hI
      have hx := hr.fs.eq List.mem_cons_self
      have hle := hr.le
      simp only [List.length_cons] at hle
      have a1 := law_add_ok hr.st hx.2 (by simp; omega) (by omega) (by decide) S
      have a2 := law_times_ok hr.sp hx.2 (by simp; omega) (by omega) (by decide) S
      rw [← hx.1] at a1 a2
      refine ⟨[some (.ref n), some w, some (.d (.bl b)), some (.d x), none, some (.d (fr t)), some (.d (fr p)), none, none], S, [some (.ref n), some w, some (.d (.bl b)), some (.d x), none, some (.d (fr (t + rv x))), some (.d (fr (p * rv x))), none, none], S, rfl, ?_, _, _, some (.d x), rfl, rfl, hr.next⟩
      simp -implicitDefEqProofs [a1, a2]) xs [some (.ref n), some w, some (.d (.bl b)), none, none, some (.d (fr 0)), some (.d (fr 1)), none, none] S ⟨0, 1, none, rfl, rfl, Row.start hf⟩
  obtain ⟨e1, S1, f1, t, p, v, rfl, rfl, hrow⟩ := l1
  obtain ⟨rfl, rfl⟩ := hrow.done
  -- mixed, twice
  have L1 := fun S : Sto => law_same_refl 4 (.lst [fr (psum xs), fr (pprod xs)]) S (okD_lst (by simp) (by
    intro x hx
    simp only [List.mem_cons, List.not_mem_nil, or_false] at hx
    rcases hx with rfl | rfl <;> exact okD_fr _ _))
  have l2 := forM_ok (k := ⟨upFrom 0 2, none⟩) (g := mgName 4) (b := (sSeq (sAsg (mTup (mCons (mTup (mCons (mC (.int 0)) (mCons (mC (.int 1)) mNil))) (mCons (mTup (mCons (mC (.int 1)) (mCons (mC (.int 1)) mNil))) mNil))) (mgTup 2 (mgCons (mgName 7) (mgCons (mgName 8) mgNil))))
  (sSeq (sFor (miSeq (mCall m__law_mixed (mCons (mVar 0) (mCons (mVar 1) mNil)))) (mgName 3) (sPar 7 8 (mCons (mIf (mTest (mVar 2)) (mCall m_plus (mCons (mVar 7) (mCons (mVar 3) mNil))) (mCall m_plus (mCons (mVar 3) (mCons (mVar 7) mNil)))) (mCons (mIf (mTest (mVar 2)) (mCall m_times (mCons (mVar 8) (mCons (mVar 3) mNil))) (mCall m_times (mCons (mVar 3) (mCons (mVar 8) mNil)))) mNil))))
  (sSeq (sIf (mNot (mTest (mCall (m__law_same 4) (mCons (mList .pure (mCons (mVar 7) (mCons (mVar 8) mNil))) (mCons (mList .pure (mCons (mVar 5) (mCons (mVar 6) mNil))) mNil))))) (sRet (mC (.bl false))) sNil)
  (sAsg (mNotV (mVar 2)) (mgName 2))))))
    (fun rest env T => ∃ (o : Ob) (b : Bool) (v3 v4 v7 v8 : Option W), env = [some (.ref n), some w, some (.d (.bl b)), v3, v4, some (.d (fr (psum xs))), some (.d (fr (pprod xs))), v7, v8] ∧ T = S.set n o ∧ Bx (S.set n o) n (c + (2 - rest.length) * 10) ∧ rest.length ≤ 2 ∧ (rest.length < 2 → v8 = some (.d (fr (pprod xs)))))
    (fun _ _ _ _ => rfl) (fun x rest env T hI => ?_) (upFrom 0 2) [some (.ref n), some w, some (.d (.bl b)), v, none, some (.d (fr (psum xs))), some (.d (fr (pprod xs))), none, none] S ?_
  · obtain ⟨e2, S2, f2, o, b2, v3, v4, v7, v8, rfl, rfl, hB2, _, h8⟩ := l2
    obtain rfl := h8 (by simp)
    simp only [List.length_nil, Nat.sub_zero] at hB2
    have h2 := list_set (o := o) h hn
    have l3 := forM_ok (k := ⟨xs.reverse, none⟩) (g := mgName 3) (b := (sIf (mAnd (mTest (mBin (gNe) (mBin gIx (mVar 3) (mC (.int 0))) (mC (.int 0)))) (mTest (mBin (gNe) (mBin gIx (mVar 6) (mC (.int 0))) (mC (.int 0))))) (sSeq (sAsg (mCall m__law_over (mCons (mVar 6) (mCons (mVar 3) mNil))) (mgName 6))
  (sSeq (sAsg (mCall m_over (mCons (mVar 8) (mCons (mVar 3) mNil))) (mgName 8))
  (sIf (mNot (mTest (mCall (m__law_same 4) (mCons (mVar 8) (mCons (mVar 6) mNil))))) (sRet (mC (.bl false))) sNil))) sNil))
      (fun rest env T => ∃ (p : Rat) (v3 : Option W), env = [some (.ref n), some w, some (.d (.bl b2)), v3, v4, some (.d (fr (psum xs))), some (.d (fr p)), v7, some (.d (fr p))] ∧ S.set n o = T ∧ (p = 0 ∨ p = pprod rest) ∧ Frs rest ∧ rest.length ≤ 7)
      (fun _ _ _ _ => rfl) (fun x rest env T hI => by
        obtain ⟨p, v, rfl, rfl, hp, hr, hle⟩ := hI
        have hx := hr.eq List.mem_cons_self
        have hr' : Frs rest := fun y hy => hr y (List.mem_cons_of_mem _ hy)
        simp only [List.length_cons] at hle
        by_cases hz : rv x ≠ 0 ∧ p ≠ 0
        · have hp := hp.resolve_left hz.2
          have sp : Sz p (1 + 810 * 7) := by rw [hp]; exact (sz_prod hr).mono (by simp; omega)
          have a1 := law_over_ok sp hx.2 hz.1 (by decide) (by decide) (by decide) (S.set n o)
          have a2 := over_ok sp hx.2 hz.1 (by decide) (by decide) (by decide) (S.set n o)
          have a3 := law_same_refl 4 (fr (p / rv x)) (S.set n o) (okD_fr _ _)
          have n1 := num_ne hz.1
          have n2 := num_ne hz.2
          have G1 : gIx (.d (fr (rv x))) (.d (.int 0)) (S.set n o) = some (.d (.int (rv x).num), S.set n o) := by simp [fr_eq]
          have G2 : gIx (.d (fr p)) (.d (.int 0)) (S.set n o) = some (.d (.int p.num), S.set n o) := by simp [fr_eq]
          rw [← hx.1] at a1 a2 G1
          refine ⟨[some (.ref n), some w, some (.d (.bl b2)), some (.d x), v4, some (.d (fr (psum xs))), some (.d (fr p)), v7, some (.d (fr p))], S.set n o, [some (.ref n), some w, some (.d (.bl b2)), some (.d x), v4, some (.d (fr (psum xs))), some (.d (fr (p / rv x))), v7, some (.d (fr (p / rv x)))], S.set n o, rfl, ?_, p / rv x, some (.d x), rfl, rfl, .inr ?_, hr', by omega⟩
          · simp -implicitDefEqProofs [a1, a2, a3, G1, G2, n1, n2]
          · rw [hp]
            simp only [pprod]
            have := Rat.mul_inv_cancel _ hz.1
            rw [Rat.div_def]
            grind
        · have hd : rv x = 0 ∨ p = 0 := by
            by_cases q : rv x = 0
            · exact .inl q
            · by_cases q2 : p = 0
              · exact .inr q2
              · exact absurd ⟨q, q2⟩ hz
          have hp0 : p = 0 := by
            rcases hd with q | q
            · rcases hp with z | z
              · exact z
              · rw [z]; simp [pprod, q]
            · exact q
          have G1 : gIx (.d (fr (rv x))) (.d (.int 0)) (S.set n o) = some (.d (.int (rv x).num), S.set n o) := by simp [fr_eq]
          have G2 : gIx (.d (fr p)) (.d (.int 0)) (S.set n o) = some (.d (.int p.num), S.set n o) := by simp [fr_eq]
          have n2 : p.num = 0 := by rw [hp0]; rfl
          rw [← hx.1] at G1
          refine ⟨[some (.ref n), some w, some (.d (.bl b2)), some (.d x), v4, some (.d (fr (psum xs))), some (.d (fr p)), v7, some (.d (fr p))], S.set n o, [some (.ref n), some w, some (.d (.bl b2)), some (.d x), v4, some (.d (fr (psum xs))), some (.d (fr p)), v7, some (.d (fr p))], S.set n o, rfl, ?_, p, some (.d x), rfl, rfl, .inl hp0, hr', by omega⟩
          by_cases q : (rv x).num = 0 <;> simp -implicitDefEqProofs [G1, G2, n2, q]) xs.reverse [some (.ref n), some w, some (.d (.bl b2)), v3, v4, some (.d (fr (psum xs))), some (.d (fr (pprod xs))), v7, some (.d (fr (pprod xs)))] (S.set n o)
      ⟨pprod xs, v3, rfl, rfl, .inr (pprod_perm (List.reverse_perm xs).symm), hf.perm (List.reverse_perm xs), by simpa using hl⟩
    obtain ⟨e3, S3, f3, p, v3', rfl, rfl, _⟩ := l3
    refine ⟨o, ?_, hB2.mono (by omega)⟩
    have M1 : ∀ v3 v4 v5 v6 v7 v8, miSeq (mVar 1) [some (.ref n), some w, some (.d (.bl b)), v3, v4, v5, v6, v7, v8] S = some (⟨xs, w.lock xs⟩, S) := fun _ _ _ _ _ _ => miSeq_list rfl h ht
    have M2 : ∀ b v3 v4 v5 v6 v7 v8, miSeq (mUn (gRev .pure) (mVar 1)) [some (.ref n), some w, some (.d (.bl b)), v3, v4, v5, v6, v7, v8] (S.set n o) = some (⟨xs.reverse, none⟩, S.set n o) := fun _ _ _ _ _ _ _ => by
      have e : gRev .pure w (S.set n o) = some (.d (.lst xs.reverse), S.set n o) := by unfold gRev; rw [h2]; rfl
      unfold miSeq wkL
      simp [e, dl1, dl2, dl3]
    simp only [fr_zero, one_fr] at f1
    simp -implicitDefEqProofs [m__law_rows_right, runDef, b__law_rows_right, startE, M1, f1, miRange1, f2, M2, f3, fin, sz2]
  · obtain ⟨o, b, v3, v4, v7, v8, rfl, rfl, hB1, hle, _⟩ := hI
    simp only [List.length_cons] at hB1 hle
    obtain ⟨ys, o2, k1, k2, k3⟩ := mixed_ok hB1 (by omega) (list_set (o := o) h hn) hn
    rw [set_set] at k1 k3
    have hly := k2.length_eq
    have hfy := hf.perm k2
    have l4 := forM_ok (k := ⟨ys, none⟩) (g := mgName 3) (b := (sPar 7 8 (mCons (mIf (mTest (mVar 2)) (mCall m_plus (mCons (mVar 7) (mCons (mVar 3) mNil))) (mCall m_plus (mCons (mVar 3) (mCons (mVar 7) mNil)))) (mCons (mIf (mTest (mVar 2)) (mCall m_times (mCons (mVar 8) (mCons (mVar 3) mNil))) (mCall m_times (mCons (mVar 3) (mCons (mVar 8) mNil)))) mNil))))
      (fun rest env T => ∃ (t p : Rat) (v : Option W), env = [some (.ref n), some w, some (.d (.bl b)), v, some (.d x), some (.d (fr (psum xs))), some (.d (fr (pprod xs))), some (.d (fr t)), some (.d (fr p))] ∧ S.set n o2 = T ∧ Row ys rest t p)
      (fun _ _ _ _ => rfl) (fun y rest env T hI => by
        obtain ⟨t, p, v, rfl, rfl, hr⟩ := hI
        have hx := hr.fs.eq List.mem_cons_self
        have hle := hr.le
        simp only [List.length_cons] at hle
        have st := hr.st
        have sp := hr.sp
        simp only [List.length_cons] at st sp
        have a1 := plus_ok st hx.2 (by omega) (by omega) (by decide) (S.set n o2)
        have a2 := times_ok sp hx.2 (by omega) (by omega) (by decide) (S.set n o2)
        have a3 := plus_ok hx.2 st (by omega) (by decide) (by omega) (S.set n o2)
        have a4 := times_ok hx.2 sp (by omega) (by decide) (by omega) (S.set n o2)
        have c1 : rv y + t = t + rv y := by grind
        have c2 : rv y * p = p * rv y := by grind
        rw [c1] at a3
        rw [c2] at a4
        rw [← hx.1] at a1 a2 a3 a4
        refine ⟨[some (.ref n), some w, some (.d (.bl b)), some (.d y), some (.d x), some (.d (fr (psum xs))), some (.d (fr (pprod xs))), some (.d (fr t)), some (.d (fr p))], S.set n o2, [some (.ref n), some w, some (.d (.bl b)), some (.d y), some (.d x), some (.d (fr (psum xs))), some (.d (fr (pprod xs))), some (.d (fr (t + rv y))), some (.d (fr (p * rv y)))], S.set n o2, rfl, ?_, _, _, some (.d y), rfl, rfl, hr.next⟩
        cases b <;> simp -implicitDefEqProofs [a1, a2, a3, a4]) ys [some (.ref n), some w, some (.d (.bl b)), v3, some (.d x), some (.d (fr (psum xs))), some (.d (fr (pprod xs))), some (.d (fr 0)), some (.d (fr 1))] (S.set n o2) ⟨0, 1, v3, rfl, rfl, Row.start hfy⟩
    obtain ⟨e4, S4, f4, t, p, v', rfl, rfl, hrow⟩ := l4
    obtain ⟨rfl, rfl⟩ := hrow.done
    rw [psum_perm k2, pprod_perm k2] at f4
    simp only [fr_zero, one_fr] at f4
    have q := L1 (S.set n o2)
    refine ⟨[some (.ref n), some w, some (.d (.bl b)), v3, some (.d x), some (.d (fr (psum xs))), some (.d (fr (pprod xs))), v7, v8], S.set n o, [some (.ref n), some w, some (.d (.bl !b)), v', some (.d x), some (.d (fr (psum xs))), some (.d (fr (pprod xs))), some (.d (fr (psum xs))), some (.d (fr (pprod xs)))], S.set n o2, rfl, ?_, o2, !b, v', some (.d x), _, _, rfl, rfl, k3.mono (by omega), by omega, fun _ => rfl⟩
    simp -implicitDefEqProofs [miSeq, wkL, k1, f4, q, sz2, dl1, dl2, dl3]
  · obtain ⟨o, e⟩ := hB.self
    exact ⟨o, b, v, none, none, none, rfl, e.symm, by rw [e]; exact hB.mono (by omega), by simp, by simp⟩
end K01
end
section
set_option maxRecDepth 100000
namespace K01
open PySem L2 MW
theorem low_eqv (a : Int) {b : Int} (hb : 0 < b) : D.eqv (fr (Rat.divInt a b)) (.tup [.int a, .int b]) = decide (Nat.gcd a.natAbs b.natAbs = 1) := by
  have e : D.eqv (fr (Rat.divInt a b)) (.tup [.int a, .int b]) = (decide ((Rat.divInt a b).num = a) && decide (((Rat.divInt a b).den : Int) = b)) := by
    show (((Rat.divInt a b).num == a) && ((((Rat.divInt a b).den : Int) == b) && true)) = _
    rw [Bool.and_true]
    rfl
  rw [e]
  by_cases h : Nat.gcd a.natAbs b.natAbs = 1
  · have hk : Rat.divInt a b = ⟨a, b.natAbs, by omega, h⟩ := by
      rw [Rat.mk_eq_divInt]
      congr 1
      omega
    have h1 : (Rat.divInt a b).num = a := by rw [hk]
    have h2 : ((Rat.divInt a b).den : Int) = b := by rw [hk]; show ((b.natAbs : Nat) : Int) = b; omega
    simp [h, h1, h2]
  · have : ¬ ((Rat.divInt a b).num = a ∧ ((Rat.divInt a b).den : Int) = b) := fun ⟨h1, h2⟩ => by
      have := (Rat.divInt a b).reduced
      rw [h1] at this
      have e2 : b.natAbs = (Rat.divInt a b).den := by omega
      rw [e2] at h
      exact h this
    simp only [h, decide_false, Bool.and_eq_false_iff, decide_eq_false_iff_not]
    by_cases z : (Rat.divInt a b).num = a
    · exact .inr fun q => this ⟨z, q⟩
    · exact .inl z
theorem gEq_low (a : Int) {b : Int} (hb : 0 < b) (S : Sto) : gEq (.d (fr (Rat.divInt a b))) (.d (.tup [.int a, .int b])) S = some (.d (.bl (decide (Nat.gcd a.natAbs b.natAbs = 1))), S) := by
  rw [gEq_d (shp_fr _) rfl, low_eqv a hb]
theorem okD_int (i : Int) (n : Nat) : okD (n + 1) (.int i) := trivial
theorem okD_bl (i : Bool) (n : Nat) : okD (n + 1) (.bl i) := trivial
theorem same_bls (xs : List Bool) (h : xs.length ≤ 100000) (S : Sto) : m__law_same 4 [.d (.lst (xs.map D.bl)), .d (.lst (xs.map D.bl))] S = some (.d (.bl true), S) :=
  law_same_refl 4 _ _ (okD_lst (by simpa using h) fun x hx => by
    obtain ⟨b, _, rfl⟩ := List.mem_map.mp hx
    trivial)
theorem same4 (a b c d : Bool) (S : Sto) : m__law_same 4 [.d (.lst [.bl a, .bl b, .bl c, .bl d]), .d (.lst [.bl a, .bl b, .bl c, .bl d])] S = some (.d (.bl true), S) := same_bls [a, b, c, d] (by simp) S
theorem same3 (a b c : Bool) (S : Sto) : m__law_same 4 [.d (.lst [.bl a, .bl b, .bl c]), .d (.lst [.bl a, .bl b, .bl c])] S = some (.d (.bl true), S) := same_bls [a, b, c] (by simp) S
theorem gcd_succ (f : Int) (h : 1 ≤ f) : Nat.gcd f.natAbs (f + 1).natAbs = 1 := by
  have e : (f + 1).natAbs = f.natAbs + 1 := by omega
  rw [e]
  simp
theorem gcd_two (f : Int) (h : 1 ≤ f) : ¬ Nat.gcd (2 * f).natAbs (2 * f + 2).natAbs = 1 := by
  have e1 : (2 * f).natAbs = 2 * f.natAbs := by omega
  have e2 : (2 * f + 2).natAbs = 2 * (f.natAbs + 1) := by omega
  rw [e1, e2, Nat.gcd_mul_left]
  omega
/-- the turn of the loop over the five pairs -/
def lowB : MS := (sSeq (sAsg (mCall m__law_low (mCons (mVar 5) (mCons (mVar 6) mNil))) (mgName 7))
  (sSeq (sIf (mNot (mTest (mCall (m__law_same 4) (mCons (mIf (mTest (mVar 1)) (mCallK m_lowest [1, 0] 0 2 mNil (mCons (mVar 6) (mCons (mVar 5) mNil))) (mCall m_lowest (mCons (mVar 5) (mCons (mVar 6) mNil)))) (mCons (mVar 7) mNil))))) (sRet (mC (.bl false))) sNil)
  (sSeq (sAsg (mAndV (mBin (gInt iGt) (mVar 6) (mC (.int 0))) (mBin (gEq) (mVar 7) (mTup (mCons (mVar 5) (mCons (mVar 6) mNil))))) (mgName 8))
  (sSeq (sIf (mNot (mTest (mCall (m__law_same 4) (mCons (mList .pure (mCons (mCall m_is_fraction (mCons (mTup (mCons (mVar 5) (mCons (mVar 6) mNil))) mNil)) (mCons (mCall m_is_chance (mCons (mTup (mCons (mVar 5) (mCons (mVar 6) mNil))) mNil)) (mCons (mCall m_is_fraction (mCons (mVar 7) mNil)) (mCons (mCall m_is_fraction (mCons (mList .pure (mCons (mBin gIx (mVar 7) (mC (.int 0))) (mCons (mBin gIx (mVar 7) (mC (.int 1))) mNil))) mNil)) mNil))))) (mCons (mList .pure (mCons (mVar 8) (mCons (mAndV (mVar 8) (mChain (gInt iLe) (gInt iLe) (mC (.int 0)) (mVar 5) (mVar 6))) (mCons (mC (.bl true)) (mCons (mC (.bl false)) mNil))))) mNil))))) (sRet (mC (.bl false))) sNil)
  (sAsg (mNotV (mVar 1)) (mgName 1))))))
theorem low_turn {a b : Int} (hb : b ≠ 0) (h : b.natAbs < 2 ^ 1000) (w : W) (by' : Bool) (f t s v7 v8 : Option W) (S : Sto) :
    ∃ r, lowB [some w, some (.d (.bl by')), f, t, s, some (.d (.int a)), some (.d (.int b)), v7, v8] S = some (.nx [some w, some (.d (.bl !by')), f, t, s, some (.d (.int a)), some (.d (.int b)), some (.d (fr (Rat.divInt a b))), some (.d (.bl r))] S) := by
  have q1 := law_low_ok (a := a) hb h (by decide) S
  have q2 := lowest_ok (a := a) hb h (by decide) S
  have q3 := law_same_refl 4 (fr (Rat.divInt a b)) S (okD_fr _ _)
  have G1 : gIx (.d (fr (Rat.divInt a b))) (.d (.int 0)) S = some (.d (.int (Rat.divInt a b).num), S) := by simp [fr_eq]
  have G2 : gIx (.d (fr (Rat.divInt a b))) (.d (.int 1)) S = some (.d (.int (Rat.divInt a b).den), S) := by simp [fr_eq]
  have F := is_fraction_fr (Rat.divInt a b) S
  have P := is_fraction_pair a b S
  have C := is_chance_pair a b S
  by_cases h0 : 0 < b
  · have E := gEq_low a h0 S
    refine ⟨decide (Nat.gcd a.natAbs b.natAbs = 1), ?_⟩
    by_cases g : Nat.gcd a.natAbs b.natAbs = 1 <;> by_cases a0 : 0 ≤ a <;> cases by' <;>
      simp -implicitDefEqProofs [lowB, q1, q2, q3, G1, G2, F, P, C, h0, E, g, a0, sz2, sz4, same4, kg10, is_fraction_lst]
  · refine ⟨false, ?_⟩
    cases by' <;>
      simp -implicitDefEqProofs [lowB, q1, q2, q3, G1, G2, F, P, C, h0, sz2, sz4, same4, kg10, is_fraction_lst]
theorem sz5 : 5 ≤ sizeLine := by rw [sizeLine_eq]; decide
theorem lowest_right_ok {S : Sto} {n c : Nat} (hB : Bx S n c) (hc : c + 200 < 1000000) (b : Bool) :
    ∃ o, m__law_lowest_right [.ref n, .d (.bl b)] S = some (.d (.bl true), S.set n o) ∧ Bx (S.set n o) n (c + 100) := by
  obtain ⟨f, o1, a1, a2, a3, a4⟩ := great_ok hB (by omega) (digits := 120) (L := 13) (by decide) (by decide) (by decide) (by decide)
  obtain ⟨t, o2, b1, b2, b3, b4⟩ := great_ok a4 (by omega) (digits := 100) (L := 11) (by decide) (by decide) (by decide) (by decide)
  obtain ⟨s, o3, c1, c2, c3, c4⟩ := great_ok b4 (by omega) (digits := 100) (L := 11) (by decide) (by decide) (by decide) (by decide)
  simp only [set_set] at b1 b4 c1 c4
  have a3 : f.natAbs < 2 ^ 394 := a3
  have b3 : t.natAbs < 2 ^ 334 := b3
  have c3 : s.natAbs < 2 ^ 334 := c3
  have m1 : ∀ S : Sto, gMul .pure (.d (.int t)) (.d (.int f)) S = some (.d (.int (t * f)), S) := fun S => gMul_b b3 a3 (by decide) (by decide) (by decide)
  have m2 : ∀ S : Sto, gMul .pure (.d (.int s)) (.d (.int f)) S = some (.d (.int (s * f)), S) := fun S => gMul_b c3 a3 (by decide) (by decide) (by decide)
  have m3 : ∀ S : Sto, gMul .pure (.d (.int 2)) (.d (.int f)) S = some (.d (.int (2 * f)), S) := fun S => gMul_b (a := 3) (by decide) a3 (by decide) (by decide) (by decide)
  have hsf : (s * f).natAbs < 2 ^ 1000 := by
    rw [Int.natAbs_mul]
    exact Nat.lt_of_lt_of_le (pow_lt_mul c3 a3) (Nat.pow_le_pow_right (by decide) (by decide))
  have hs0 : 0 < s * f := Int.mul_pos (by omega) (by omega)
  have hf1 : f.natAbs < 2 ^ 1000 := pow_mono a3 (by decide)
  have loop := forM_ok (k := ⟨[.tup [.int (t * f), .int (s * f)], .tup [.int (0 - t * f), .int (s * f)], .tup [.int (t * f), .int (0 - s * f)], .tup [.int 0, .int (s * f)], .tup [.int f, .int f]], none⟩) (g := mgTup 2 (mgCons (mgName 5) (mgCons (mgName 6) mgNil))) (b := lowB)
    (fun rest env T => ∃ (b : Bool) (v5 v6 v7 v8 : Option W), env = [some (.ref n), some (.d (.bl b)), some (.d (.int f)), some (.d (.int t)), some (.d (.int s)), v5, v6, v7, v8] ∧ S.set n o3 = T ∧ ∀ x ∈ rest, ∃ a b : Int, x = .tup [.int a, .int b] ∧ b ≠ 0 ∧ b.natAbs < 2 ^ 1000)
    (fun _ _ _ _ => rfl) (fun x rest env T hI => by
      obtain ⟨b, v5, v6, v7, v8, rfl, rfl, hx⟩ := hI
      obtain ⟨p, q, rfl, hq, hz⟩ := hx x List.mem_cons_self
      obtain ⟨r, hr⟩ := low_turn (a := p) hq hz (.ref n) b (some (.d (.int f))) (some (.d (.int t))) (some (.d (.int s))) v7 v8 (S.set n o3)
      exact ⟨_, _, _, _, rfl, hr, _, _, _, _, _, rfl, rfl, fun y hy => hx y (List.mem_cons_of_mem _ hy)⟩)
    [.tup [.int (t * f), .int (s * f)], .tup [.int (0 - t * f), .int (s * f)], .tup [.int (t * f), .int (0 - s * f)], .tup [.int 0, .int (s * f)], .tup [.int f, .int f]]
    [some (.ref n), some (.d (.bl b)), some (.d (.int f)), some (.d (.int t)), some (.d (.int s)), none, none, none, none] (S.set n o3)
    ⟨b, none, none, none, none, rfl, rfl, fun x hx => by
      simp only [List.mem_cons, List.not_mem_nil, or_false] at hx
      rcases hx with rfl | rfl | rfl | rfl | rfl
      · exact ⟨_, _, rfl, by omega, hsf⟩
      · exact ⟨_, _, rfl, by omega, hsf⟩
      · exact ⟨_, _, rfl, by omega, by rw [Int.zero_sub, Int.natAbs_neg]; exact hsf⟩
      · exact ⟨_, _, rfl, by omega, hsf⟩
      · exact ⟨_, _, rfl, by omega, hf1⟩⟩
  obtain ⟨e', S', f1, b', v5, v6, v7, v8, rfl, rfl, _⟩ := loop
  refine ⟨o3, ?_, c4.mono (by omega)⟩
  have d1 := is_chance_pair f (f + 1) (S.set n o3)
  have d2 := is_chance_pair (f + 1) f (S.set n o3)
  have d3 := is_fraction_pair (2 * f) (2 * f + 2) (S.set n o3)
  have g1 := gcd_succ f a2
  have g2 := gcd_two f a2
  have x1 : 0 < f + 1 := by omega
  have x2 : 0 ≤ f := by omega
  have x3 : ¬ f + 1 ≤ f := by omega
  have x4 : ¬ f = 0 := by omega
  have x5 : f ≤ f + 1 := by omega
  have e1 : (decide (0 < f + 1) && decide (Nat.gcd f.natAbs (f + 1).natAbs = 1) && decide (0 ≤ f) && decide (f ≤ f + 1)) = true := by simp [g1, x1, x2, x5]
  have e2 : (decide (0 < f) && decide (Nat.gcd (f + 1).natAbs f.natAbs = 1) && decide (0 ≤ f + 1) && decide (f + 1 ≤ f)) = false := by simp [x3]
  have e3 : (decide (0 < 2 * f + 2) && decide (Nat.gcd (2 * f).natAbs (2 * f + 2).natAbs = 1)) = false := by simp [g2]
  rw [e1] at d1
  rw [e2] at d2
  rw [e3] at d3
  have hbody : b__law_lowest_right = (sSeq (sPar3 2 3 4 (mCons (mCall m__law_great (mCons (mVar 0) (mCons (mC (.int 120)) mNil))) (mCons (mCall m__law_great (mCons (mVar 0) (mCons (mC (.int 100)) mNil))) (mCons (mCall m__law_great (mCons (mVar 0) (mCons (mC (.int 100)) mNil))) mNil))))
  (sSeq (sFor (miSeq (mList .pure (mCons (mTup (mCons (mBin (gMul .pure) (mVar 3) (mVar 2)) (mCons (mBin (gMul .pure) (mVar 4) (mVar 2)) mNil))) (mCons (mTup (mCons (mBin (gInt iSub) (mC (.int 0)) (mBin (gMul .pure) (mVar 3) (mVar 2))) (mCons (mBin (gMul .pure) (mVar 4) (mVar 2)) mNil))) (mCons (mTup (mCons (mBin (gMul .pure) (mVar 3) (mVar 2)) (mCons (mBin (gInt iSub) (mC (.int 0)) (mBin (gMul .pure) (mVar 4) (mVar 2))) mNil))) (mCons (mTup (mCons (mC (.int 0)) (mCons (mBin (gMul .pure) (mVar 4) (mVar 2)) mNil))) (mCons (mTup (mCons (mVar 2) (mCons (mVar 2) mNil))) mNil))))))) (mgTup 2 (mgCons (mgName 5) (mgCons (mgName 6) mgNil))) lowB)
  (sRet (mCall (m__law_same 4) (mCons (mList .pure (mCons (mCall m_is_chance (mCons (mTup (mCons (mVar 2) (mCons (mBin (gAdd .pure) (mVar 2) (mC (.int 1))) mNil))) mNil)) (mCons (mCall m_is_chance (mCons (mTup (mCons (mBin (gAdd .pure) (mVar 2) (mC (.int 1))) (mCons (mVar 2) mNil))) mNil)) (mCons (mCall m_is_fraction (mCons (mTup (mCons (mBin (gMul .pure) (mC (.int 2)) (mVar 2)) (mCons (mBin (gAdd .pure) (mBin (gMul .pure) (mC (.int 2)) (mVar 2)) (mC (.int 2))) mNil))) mNil)) mNil)))) (mCons (mList .pure (mCons (mC (.bl true)) (mCons (mBin (gEq) (mVar 2) (mC (.int 0))) (mCons (mC (.bl false)) mNil)))) mNil)))))) := rfl
  simp only [Int.zero_sub] at f1
  simp -implicitDefEqProofs [m__law_lowest_right, runDef, hbody, startE, a1, b1, c1, m1, m2, m3, miSeq, wkL, dl1, dl2, dl3, f1, d1, d2, d3, x4, sz2, sz3, sz5, same3, fin]
end K01
end
section
set_option maxRecDepth 100000
namespace K01
open PySem L2 MW
theorem at_mem {xs : List D} {i : Int} (h0 : -(xs.length : Int) ≤ i) (h1 : i < xs.length) : ∃ y, atI xs i = some y ∧ y ∈ xs := by
  by_cases h : 0 ≤ i
  · obtain ⟨k, rfl⟩ : ∃ k : Nat, i = k := ⟨i.toNat, by omega⟩
    have hk : k < xs.length := by omega
    exact ⟨xs[k], by rw [MW.atI_nat, List.getElem?_eq_getElem hk], List.getElem_mem hk⟩
  · obtain ⟨k, rfl⟩ : ∃ k : Nat, i = -(k : Int) := ⟨(-i).toNat, by omega⟩
    have hk : xs.length - k < xs.length := by omega
    exact ⟨xs[xs.length - k], by rw [atI_neg (by omega) (by omega), List.getElem?_eq_getElem hk], List.getElem_mem hk⟩
theorem law_true (ns : List Int) (hns : ns.length ≤ 63) : ∃ S, m_law [.scr ns] [] = some (.d (.bl true), S) := by
  have loop := forM_ok (k := ⟨upFrom 0 2, none⟩) (g := mgName 1) (b := (sSeq (sAsg (mCall m__law_box (mCons (mCall m__law_cell (mCons (mVar 0) (mCons (mVar 1) mNil))) mNil)) (mgName 2))
  (sSeq (sPar 5 6 (mCons (mBin (gEq) (mCall m__law_take (mCons (mVar 2) (mCons (mC (.int 2)) mNil))) (mC (.int 0))) (mCons (mList .own mNil) mNil)))
  (sSeq (sFor (miRange1 (mCons (mBin (gAdd .pure) (mC (.int 3)) (mCall m__law_take (mCons (mVar 2) (mCons (mC (.int 4)) mNil)))) mNil)) (mgName 3) (sExpr (mMeth "list" gAppend (mVar 6) (mCons (mCall m__law_fraction (mCons (mVar 2) (mCons (mVar 6) mNil))) mNil))))
  (sSeq (sFor (miRange1 (mCons (mCall gLen (mCons (mVar 6) mNil)) mNil)) (mgName 4) (sSeq (sIf (mOr (mNot (mTest (mCall m__law_two_right (mCons (mBin gIx (mVar 6) (mBin (gInt iSub) (mVar 4) (mC (.int 1)))) (mCons (mBin gIx (mVar 6) (mVar 4)) (mCons (mVar 5) mNil)))))) (mNot (mTest (mCall m__law_two_right (mCons (mBin gIx (mVar 6) (mVar 4)) (mCons (mBin gIx (mVar 6) (mBin (gInt iSub) (mVar 4) (mC (.int 1)))) (mCons (mNotV (mVar 5)) mNil))))))) (sRet (mC (.bl false))) sNil)
  (sSeq (sIf (mNot (mTest (mCall m__law_three_right (mCons (mBin gIx (mVar 6) (mBin (gInt iSub) (mVar 4) (mC (.int 2)))) (mCons (mBin gIx (mVar 6) (mBin (gInt iSub) (mVar 4) (mC (.int 1)))) (mCons (mBin gIx (mVar 6) (mVar 4)) (mCons (mVar 5) mNil))))))) (sRet (mC (.bl false))) sNil)
  (sAsg (mNotV (mVar 5)) (mgName 5)))))
  (sIf (mOr (mNot (mTest (mCall m__law_rows_right (mCons (mVar 2) (mCons (mVar 6) (mCons (mVar 5) mNil)))))) (mNot (mTest (mCall m__law_lowest_right (mCons (mVar 2) (mCons (mNotV (mVar 5)) mNil)))))) (sRet (mC (.bl false))) sNil))))))
    (fun rest env T => ∃ v1 v2 v3 v4 v5 v6 : Option W, env = [some (.scr ns), v1, v2, v3, v4, v5, v6] ∧ ∀ x ∈ rest, ∃ k : Nat, x = .int k ∧ k < 64)
    (fun _ _ _ _ => rfl) (fun x rest env T hI => ?_) (upFrom 0 2) [some (.scr ns), none, none, none, none, none, none] [] ?_
  · obtain ⟨e', S', f1, _⟩ := loop
    exact ⟨_, by simp -implicitDefEqProofs [m_law, runDef, b_law, startE, miRange1, f1, fin]; rfl⟩
  · obtain ⟨v1, v2, v3, v4, v5, v6, rfl, hx⟩ := hI
    obtain ⟨k, rfl, hk⟩ := hx x List.mem_cons_self
    obtain ⟨i, c1⟩ := cell_ok ns k hk T
    obtain ⟨o0, c2, B0⟩ := box_ok i T
    obtain ⟨r, o1, t1, t2, t3, B1⟩ := take_ok B0 (by decide) (many := 2) (by decide) (by decide)
    rw [s1 _ _ _ rfl] at t1 B1
    have B1' := B1.app (T := [.lst []])
    obtain ⟨r4, o2, u1, u2, u3, B2⟩ := take_ok B1' (by decide) (many := 4) (by decide) (by decide)
    rw [List.append_assoc] at u1 B2
    simp only [List.cons_append, List.nil_append] at u1 B2
    rw [s2a _ _ _ _ rfl] at u1 B2
    obtain ⟨j, hj⟩ : ∃ j : Nat, 3 + r4 = j := ⟨(3 + r4).toNat, by omega⟩
    -- the fractions
    have l1 := forM_ok (k := ⟨upFrom 0 j, none⟩) (g := mgName 3) (b := (sExpr (mMeth "list" gAppend (mVar 6) (mCons (mCall m__law_fraction (mCons (mVar 2) (mCons (mVar 6) mNil))) mNil))))
      (fun rest env T' => ∃ (v3 : Option W) (o : Ob) (xs : List D), env = [some (.scr ns), some (.d (.int k)), some (.ref T.length), v3, v4, some (.d (.bl (decide (r = 0)))), some (.ref (T.length + 1))] ∧ T' = T ++ [o, .lst xs] ∧ Bx (T ++ [o, .lst xs]) T.length (2 + 200 * xs.length) ∧ Frs xs ∧ xs.length + rest.length = j)
      (fun _ _ _ _ => rfl) (fun x rest env T' hI => by
        obtain ⟨v3, o, xs, rfl, rfl, hB, hf, hl⟩ := hI
        simp only [List.length_cons] at hl
        have hw : W.list (T ++ [o, .lst xs]) (.ref (T.length + 1)) = some xs := list_ref (g2b _ _ _ rfl)
        obtain ⟨q, o', k1, k2, k3⟩ := fraction_ok hB (by omega) hw (by simp) (by simp) hf (by omega)
        rw [s2a _ _ _ _ rfl] at k1 k3
        have ap := append_ref (x := fr q) (g2b T o' (.lst xs) (n := T.length + 1) rfl) (by omega)
        rw [s2b _ _ _ _ rfl] at ap
        refine ⟨[some (.scr ns), some (.d (.int k)), some (.ref T.length), some (.d x), v4, some (.d (.bl (decide (r = 0)))), some (.ref (T.length + 1))], _, [some (.scr ns), some (.d (.int k)), some (.ref T.length), some (.d x), v4, some (.d (.bl (decide (r = 0)))), some (.ref (T.length + 1))], T ++ [o', .lst (xs ++ [fr q])], rfl, ?_, some (.d x), o', xs ++ [fr q], rfl, rfl, ?_, ?_, by simp; omega⟩
        · simp -implicitDefEqProofs [ty_ref (g2b T o (.lst xs) rfl), k1, ap]
        · have k3' : Bx ((T ++ [o']) ++ [.lst xs]) T.length (2 + 200 * xs.length + 200) := by simpa using k3
          have := k3'.of_app (by simp)
          have := (this.app (T := [.lst (xs ++ [fr q])]))
          simp only [List.append_assoc, List.cons_append, List.nil_append] at this
          exact this.mono (by simp; omega)
        · intro y hy
          rcases List.mem_append.mp hy with h | h
          · exact hf y h
          · obtain rfl := List.mem_singleton.mp h
            exact ⟨q, rfl, k2⟩)
      (upFrom 0 j) [some (.scr ns), some (.d (.int k)), some (.ref T.length), v3, v4, some (.d (.bl (decide (r = 0)))), some (.ref (T.length + 1))] (T ++ [o2, .lst []]) ⟨v3, o2, [], rfl, rfl, by simpa using B2, (fun y hy => by cases hy), by simp⟩
    obtain ⟨e1, S1, f1, w3, o, xs, rfl, rfl, hB, hf, hl⟩ := l1
    simp only [List.length_nil, Nat.add_zero] at hl
    have hw : W.list (T ++ [o, .lst xs]) (.ref (T.length + 1)) = some xs := list_ref (g2b _ _ _ rfl)
    have ll := len_lst hw
    -- two and three
    have l2 := forM_ok (k := ⟨upFrom 0 xs.length, none⟩) (g := mgName 4) (b := (sSeq (sIf (mOr (mNot (mTest (mCall m__law_two_right (mCons (mBin gIx (mVar 6) (mBin (gInt iSub) (mVar 4) (mC (.int 1)))) (mCons (mBin gIx (mVar 6) (mVar 4)) (mCons (mVar 5) mNil)))))) (mNot (mTest (mCall m__law_two_right (mCons (mBin gIx (mVar 6) (mVar 4)) (mCons (mBin gIx (mVar 6) (mBin (gInt iSub) (mVar 4) (mC (.int 1)))) (mCons (mNotV (mVar 5)) mNil))))))) (sRet (mC (.bl false))) sNil)
  (sSeq (sIf (mNot (mTest (mCall m__law_three_right (mCons (mBin gIx (mVar 6) (mBin (gInt iSub) (mVar 4) (mC (.int 2)))) (mCons (mBin gIx (mVar 6) (mBin (gInt iSub) (mVar 4) (mC (.int 1)))) (mCons (mBin gIx (mVar 6) (mVar 4)) (mCons (mVar 5) mNil))))))) (sRet (mC (.bl false))) sNil)
  (sAsg (mNotV (mVar 5)) (mgName 5)))))
      (fun rest env T' => ∃ (v4 : Option W) (b : Bool), env = [some (.scr ns), some (.d (.int k)), some (.ref T.length), w3, v4, some (.d (.bl b)), some (.ref (T.length + 1))] ∧ T ++ [o, .lst xs] = T' ∧ ∀ x ∈ rest, ∃ i : Int, x = .int i ∧ 0 ≤ i ∧ i < xs.length)
      (fun _ _ _ _ => rfl) (fun x rest env T' hI => by
        obtain ⟨v4, b, rfl, rfl, hx⟩ := hI
        obtain ⟨i, rfl, i0, i1⟩ := hx x List.mem_cons_self
        obtain ⟨y0, e0, m0⟩ := at_mem (xs := xs) (i := i) (by omega) (by omega)
        obtain ⟨y1, e1, m1⟩ := at_mem (xs := xs) (i := i - 1) (by omega) (by omega)
        obtain ⟨y2, e2, m2⟩ := at_mem (xs := xs) (i := i - 2) (by omega) (by omega)
        have g0 := get_at hw e0
        have g1 := get_at hw e1
        have g2 := get_at hw e2
        obtain ⟨r0, rfl, z0⟩ := hf _ m0
        obtain ⟨r1, rfl, z1⟩ := hf _ m1
        obtain ⟨r2, rfl, z2⟩ := hf _ m2
        have a1 := fun b => two_right_ok z1 z0 b (T ++ [o, .lst xs])
        have a2 := fun b => two_right_ok z0 z1 b (T ++ [o, .lst xs])
        have a3 := fun b => three_right_ok z2 z1 z0 b (T ++ [o, .lst xs])
        refine ⟨[some (.scr ns), some (.d (.int k)), some (.ref T.length), w3, some (.d (.int i)), some (.d (.bl b)), some (.ref (T.length + 1))], T ++ [o, .lst xs], [some (.scr ns), some (.d (.int k)), some (.ref T.length), w3, some (.d (.int i)), some (.d (.bl !b)), some (.ref (T.length + 1))], T ++ [o, .lst xs], rfl, ?_, some (.d (.int i)), !b, rfl, rfl, fun y hy => hx y (List.mem_cons_of_mem _ hy)⟩
        simp -implicitDefEqProofs [g0, g1, g2, a1, a2, a3])
      (upFrom 0 xs.length) [some (.scr ns), some (.d (.int k)), some (.ref T.length), w3, v4, some (.d (.bl (decide (r = 0)))), some (.ref (T.length + 1))] (T ++ [o, .lst xs]) ⟨v4, _, rfl, rfl, fun x hx => by
        obtain ⟨i, h1, rfl⟩ := upFrom_mem hx
        exact ⟨_, rfl, by omega, by omega⟩⟩
    obtain ⟨e2, S2, f2, w4, b, rfl, rfl, _⟩ := l2
    obtain ⟨o3, p1, B3⟩ := rows_right_ok hB (by omega) hw (by simp) rfl hf (by omega) b
    rw [s2a _ _ _ _ rfl] at p1 B3
    obtain ⟨o4, p2, B4⟩ := lowest_right_ok B3 (by omega) !b
    rw [s2a _ _ _ _ rfl] at p2
    refine ⟨[some (.scr ns), some (.d (.int k)), v2, v3, v4, v5, v6], T, [some (.scr ns), some (.d (.int k)), some (.ref T.length), w3, w4, some (.d (.bl b)), some (.ref (T.length + 1))], T ++ [o4, .lst xs], rfl, ?_, _, _, _, _, _, _, rfl, fun y hy => hx y (List.mem_cons_of_mem _ hy)⟩
    have rj : (j : Int) < 4611686018427387904 := by omega
    have rx : (xs.length : Int) < 4611686018427387904 := by omega
    simp -implicitDefEqProofs [c1, c2, t1, u1, hj, miRange1, rj, rx, f1, ll, f2, p1, p2]
  · refine ⟨_, _, _, _, _, _, rfl, fun x hx => ?_⟩
    obtain ⟨i, h1, rfl⟩ := upFrom_mem hx
    exact ⟨i, by simp, by omega⟩
end K01
end
open PySem PySem.W PyProof.Rows
set_option maxRecDepth 100000 in
set_option maxHeartbeats 0 in
theorem PySem.Challenge.cw_relywide_k01_fractions_of_many_digits_holds : PySem.Challenge.rw_relywide_k01_fractions_of_many_digits.Holds := by
  w_on; o_law; k_head; (case hw => w_witness2)
  k_fill
  refine MW.law_end (l := PySem.Challenge.rw_relywide_k01_fractions_of_many_digits) (st := K01.s_law) (F := K01.m_law) (k := 7) rfl rfl ⟨rfl, by decide, by decide⟩ (fun w h Y => PySem.W.kIn_of Y) rfl (fun _ _ _ _ _ _ us hl => match us, hl with | [_], _ => rfl) (fun w mg h KX G => ?F) K01.law_true
  case F =>
    refine K01.end_ok ?T
    constructor
    · refine' MW.defT KX G ?a ?l ?c ?k; (case a => k_is); (case l => k_is); (case c => k_is); (case k => k_is)
    · refine' MW.defT KX G ?a ?l ?c ?k; (case a => k_is); (case l => k_is); (case c => k_is); (case k => k_is)
    · refine' MW.defT KX G ?a ?l ?c ?k; (case a => k_is); (case l => k_is); (case c => k_is); (case k => k_is)
    · refine' MW.defT KX G ?a ?l ?c ?k; (case a => k_is); (case l => k_is); (case c => k_is); (case k => k_is)
    · refine' MW.defT KX G ?a ?l ?c ?k; (case a => k_is); (case l => k_is); (case c => k_is); (case k => k_is)
    · refine' MW.defT KX G ?a ?l ?c ?k; (case a => k_is); (case l => k_is); (case c => k_is); (case k => k_is)
    · refine' MW.defT KX G ?a ?l ?c ?k; (case a => k_is); (case l => k_is); (case c => k_is); (case k => k_is)
    · refine' MW.defT KX G ?a ?l ?c ?k; (case a => k_is); (case l => k_is); (case c => k_is); (case k => k_is)
    · refine' MW.defT KX G ?a ?l ?c ?k; (case a => k_is); (case l => k_is); (case c => k_is); (case k => k_is)
    · refine' MW.defT KX G ?a ?l ?c ?k; (case a => k_is); (case l => k_is); (case c => k_is); (case k => k_is)
    · refine' MW.defT KX G ?a ?l ?c ?k; (case a => k_is); (case l => k_is); (case c => k_is); (case k => k_is)
    · refine' MW.defT KX G ?a ?l ?c ?k; (case a => k_is); (case l => k_is); (case c => k_is); (case k => k_is)
    · refine' MW.defT KX G ?a ?l ?c ?k; (case a => k_is); (case l => k_is); (case c => k_is); (case k => k_is)
    · refine' MW.defT KX G ?a ?l ?c ?k; (case a => k_is); (case l => k_is); (case c => k_is); (case k => k_is)
    · refine' MW.defT KX G ?a ?l ?c ?k; (case a => k_is); (case l => k_is); (case c => k_is); (case k => k_is)
    · refine' MW.defT KX G ?a ?l ?c ?k; (case a => k_is); (case l => k_is); (case c => k_is); (case k => k_is)
    · refine' MW.defT KX G ?a ?l ?c ?k; (case a => k_is); (case l => k_is); (case c => k_is); (case k => k_is)
    · refine' MW.defT KX G ?a ?l ?c ?k; (case a => k_is); (case l => k_is); (case c => k_is); (case k => k_is)
    · refine' MW.defT KX G ?a ?l ?c ?k; (case a => k_is); (case l => k_is); (case c => k_is); (case k => k_is)
    · refine' MW.defT KX G ?a ?l ?c ?k; (case a => k_is); (case l => k_is); (case c => k_is); (case k => k_is)
    · refine' MW.defT KX G ?a ?l ?c ?k; (case a => k_is); (case l => k_is); (case c => k_is); (case k => k_is)
    · refine' MW.defT KX G ?a ?l ?c ?k; (case a => k_is); (case l => k_is); (case c => k_is); (case k => k_is)
    · refine' MW.defT KX G ?a ?l ?c ?k; (case a => k_is); (case l => k_is); (case c => k_is); (case k => k_is)
    · refine' MW.defT KX G ?a ?l ?c ?k; (case a => k_is); (case l => k_is); (case c => k_is); (case k => k_is)
    · refine' MW.defT KX G ?a ?l ?c ?k; (case a => k_is); (case l => k_is); (case c => k_is); (case k => k_is)
    · refine' MW.defT KX G ?a ?l ?c ?k; (case a => k_is); (case l => k_is); (case c => k_is); (case k => k_is)
    · refine' MW.defT KX G ?a ?l ?c ?k; (case a => k_is); (case l => k_is); (case c => k_is); (case k => k_is)
    · refine' MW.defT KX G ?a ?l ?c ?k; (case a => k_is); (case l => k_is); (case c => k_is); (case k => k_is)
    · refine' MW.defT KX G ?a ?l ?c ?k; (case a => k_is); (case l => k_is); (case c => k_is); (case k => k_is)
    · refine' MW.defT KX G ?a ?l ?c ?k; (case a => k_is); (case l => k_is); (case c => k_is); (case k => k_is)
    · refine' MW.defT KX G ?a ?l ?c ?k; (case a => k_is); (case l => k_is); (case c => k_is); (case k => k_is)
    · refine' MW.defT KX G ?a ?l ?c ?k; (case a => k_is); (case l => k_is); (case c => k_is); (case k => k_is)
    · refine' MW.defT KX G ?a ?l ?c ?k; (case a => k_is); (case l => k_is); (case c => k_is); (case k => k_is)
    · refine' MW.defT KX G ?a ?l ?c ?k; (case a => k_is); (case l => k_is); (case c => k_is); (case k => k_is)
    · refine' MW.defT KX G ?a ?l ?c ?k; (case a => k_is); (case l => k_is); (case c => k_is); (case k => k_is)
    · refine' MW.defT KX G ?a ?l ?c ?k; (case a => k_is); (case l => k_is); (case c => k_is); (case k => k_is)
    · refine' MW.defT KX G ?a ?l ?c ?k; (case a => k_is); (case l => k_is); (case c => k_is); (case k => k_is)
    · refine' MW.defT KX G ?a ?l ?c ?k; (case a => k_is); (case l => k_is); (case c => k_is); (case k => k_is)
    · refine' MW.defT KX G ?a ?l ?c ?k; (case a => k_is); (case l => k_is); (case c => k_is); (case k => k_is)
    · refine' PySem.W.mg_none_of KX G ?z; (case z => k_is)
    · refine' PySem.W.mg_none_of KX G ?z; (case z => k_is)
    · refine' PySem.W.mg_none_of KX G ?z; (case z => k_is)
    · refine' PySem.W.mg_none_of KX G ?z; (case z => k_is)
    · refine' PySem.W.mg_none_of KX G ?z; (case z => k_is)
    · refine' PySem.W.mg_none_of KX G ?z; (case z => k_is)
    · refine' PySem.W.mg_none_of KX G ?z; (case z => k_is)
    · refine' PySem.W.mg_none_of KX G ?z; (case z => k_is)
    · refine' PySem.W.mg_none_of KX G ?z; (case z => k_is)
    · refine' PySem.W.mg_none_of KX G ?z; (case z => k_is)
    · refine' PySem.W.mg_none_of KX G ?z; (case z => k_is)
    · refine' PySem.W.mg_none_of KX G ?z; (case z => k_is)
