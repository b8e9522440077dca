import PyProof.Rows.All
import Wide.All
import OpenK.AllK
import Wide.FinOn
import HandS.ForMost
import HandS.IsInst
import HandS.Deep
import HandS.Style
import HandS.WrittenGet
import HandS.Defaults
import HandS.StrMore
import HandS.ReplaceLit
import PySem.Challenge.RW_onlychanged_k73_whole_journals_cut_and_s
import HandS.Ends
import HandS.Head0
import HandS.Head1
import HandS.Head2
import HandS.HeadEnd
import HandS.HeadHook1
import HandS.HeadHook2
import HandS.HeadHook3
import HandS.HeadHook4
import HandS.Codes
import KE.IntText
import KE.IntTextLaws
import HandS.ReplaceList
set_option Elab.async false
set_option linter.all false
set_option maxRecDepth 100000
/-! PD: pure data over the hand layer: what an expression evaluates to, as a function on data and a store of lists. -/
namespace PDL
open PySem PySem.Spec PyProof.Rows L2

/-- data: tuples are values; lists that change stand in a store, by number; rl: a list that is only read; kd: an object of the written part -/
inductive D where
  | non | bl (b : Bool) | int (i : Int) | str (x : Str) | tup (xs : List D) | loc (n : Nat) | rl (xs : List D) | ty (n : String) | kd (a : Addr)
  deriving Inhabited

/-- what a number of the store stands for: a list, a dict (keys ints and texts) -/
inductive MO where
  | lst (xs : List D) | dk (kvs : List (Key × D))
abbrev Store := List MO
abbrev Env := List (Option D)

/-- a list that nobody writes: locked, or of the written part -/
def FzL (K : PySem.W.Frag) (H : Hp) (a : Addr) (xs : List V) : Prop :=
  (∃ o, H a = some (.frz o (.lst xs))) ∨
    ∃ (o : Obj) (its : Array Value) (n : Nat), K.lookup a = some o ∧ o.cls = .type "list" ∧ o.dict = none ∧ o.data = .seq its n ∧ its.size ≤ sizeLine ∧ Vals xs its.toList
theorem FzL.sq {K : PySem.W.Frag} {H : Hp} {a : Addr} {xs : List V} (h : FzL K H a xs) : SqL K H a xs := by
  rcases h with ⟨o, h⟩ | h
  · exact .inl (.inr ⟨o, h⟩)
  · exact .inr h

/-- what stays: tuples, locked lists -/
structure Kp (K : PySem.W.Frag) (H H' : Hp) : Prop where
  tup : ∀ a xs, SqT K H a xs → SqT K H' a xs
  fzl : ∀ a xs, FzL K H a xs → FzL K H' a xs
theorem Kp.refl {K : PySem.W.Frag} (H : Hp) : Kp K H H := ⟨fun _ _ h => h, fun _ _ h => h⟩
theorem Kp.trans {K : PySem.W.Frag} {H H1 H2 : Hp} (a : Kp K H H1) (b : Kp K H1 H2) : Kp K H H2 := ⟨fun _ _ h => b.tup _ _ (a.tup _ _ h), fun _ _ h => b.fzl _ _ (a.fzl _ _ h)⟩
/-- nothing that is a tuple or locked stands at p -/
def Fre (H : Hp) (p : Addr) : Prop := H p = none ∨ (∃ xs, H p = some (.lst xs)) ∨ ∃ kvs, H p = some (.dK kvs)
theorem Kp.upd {K : PySem.W.Frag} {H : Hp} {p : Addr} {o : HO} (h : Fre H p) : Kp K H (upd H p o) := by
  have nt : ∀ a xs, H a = some (.tup xs) → a ≠ p := fun a xs e z => by
    subst z
    rcases h with h | ⟨_, h⟩ | ⟨_, h⟩ <;> (rw [e] at h; cases h)
  have nf : ∀ a o u, H a = some (.frz o u) → a ≠ p := fun a o u e z => by
    subst z
    rcases h with h | ⟨_, h⟩ | ⟨_, h⟩ <;> (rw [e] at h; cases h)
  refine ⟨fun a xs q => ?_, fun a xs q => ?_⟩
  · rcases q with (q | ⟨o', q⟩) | q
    · exact .inl (.inl (by rw [upd_ne (nt _ _ q)]; exact q))
    · exact .inl (.inr ⟨o', by rw [upd_ne (nf _ _ _ q)]; exact q⟩)
    · exact .inr q
  · rcases q with ⟨o', q⟩ | q
    · exact .inl ⟨o', by rw [upd_ne (nf _ _ _ q)]; exact q⟩
    · exact .inr q
theorem Kp.new {K : PySem.W.Frag} {H : Hp} {p : Addr} {o : HO} (h : H p = none) : Kp K H (L2.upd H p o) := Kp.upd (.inl h)

def Ext (φ φ' : List Addr) : Prop := ∃ more, φ' = φ ++ more
theorem Ext.refl (φ : List Addr) : Ext φ φ := ⟨[], by simp⟩
theorem Ext.trans {a b c : List Addr} (h : Ext a b) (h' : Ext b c) : Ext a c := by
  obtain ⟨m, rfl⟩ := h
  obtain ⟨n, rfl⟩ := h'
  exact ⟨m ++ n, by simp⟩
theorem Ext.get {φ φ' : List Addr} (h : Ext φ φ') {n : Nat} {a : Addr} (e : φ[n]? = some a) : φ'[n]? = some a := by
  obtain ⟨m, rfl⟩ := h
  have hl : n < φ.length := (List.getElem?_eq_some_iff.mp e).1
  rw [List.getElem?_append_left hl]
  exact e
theorem Ext.snoc (φ : List Addr) (a : Addr) : Ext φ (φ ++ [a]) := ⟨[a], rfl⟩

mutual
inductive Rep (K : PySem.W.Frag) (φ : List Addr) (H : Hp) : D → V → Prop
  | non : Rep K φ H .non .non
  | bl (b : Bool) : Rep K φ H (.bl b) (.bl b)
  | int (i : Int) : Rep K φ H (.int i) (.int i)
  | str (x : Str) : Rep K φ H (.str x) (.str x)
  | ty (n : String) : Rep K φ H (.ty n) (.ty n)
  | kd (a : Addr) : Rep K φ H (.kd a) (.ref a)
  | loc {n : Nat} {a : Addr} : φ[n]? = some a → Rep K φ H (.loc n) (.ref a)
  | rl {a : Addr} {ds : List D} {vs : List V} : FzL K H a vs → Reps K φ H ds vs → Rep K φ H (.rl ds) (.ref a)
  | tup {a : Addr} {ds : List D} {vs : List V} : SqT K H a vs → Reps K φ H ds vs → Rep K φ H (.tup ds) (.ref a)
inductive Reps (K : PySem.W.Frag) (φ : List Addr) (H : Hp) : List D → List V → Prop
  | nil : Reps K φ H [] []
  | cons {d : D} {v : V} {ds : List D} {vs : List V} : Rep K φ H d v → Reps K φ H ds vs → Reps K φ H (d :: ds) (v :: vs)
end
section
variable {K : PySem.W.Frag} {φ φ' : List Addr} {H H' : Hp}
mutual
theorem Rep.mono (e : Ext φ φ') (k : Kp K H H') : ∀ (d : D) (v : V), Rep K φ H d v → Rep K φ' H' d v
  | .non, _, h => by cases h; exact .non
  | .bl b, _, h => by cases h; exact .bl b
  | .int i, _, h => by cases h; exact .int i
  | .str x, _, h => by cases h; exact .str x
  | .ty n, _, h => by cases h; exact .ty n
  | .kd a, _, h => by cases h; exact .kd a
  | .loc n, _, h => by
    cases h with
    | loc q => exact .loc (e.get q)
  | .rl ds, _, h => by
    cases h with
    | rl q r => exact .rl (k.fzl _ _ q) (Reps.mono e k ds _ r)
  | .tup ds, _, h => by
    cases h with
    | tup q r => exact .tup (k.tup _ _ q) (Reps.mono e k ds _ r)
theorem Reps.mono (e : Ext φ φ') (k : Kp K H H') : ∀ (ds : List D) (vs : List V), Reps K φ H ds vs → Reps K φ' H' ds vs
  | [], _, h => by cases h; exact .nil
  | d :: ds, _, h => by
    cases h with
    | cons r q => exact .cons (Rep.mono e k d _ r) (Reps.mono e k ds _ q)
end
theorem Reps.length : ∀ {ds : List D} {vs : List V}, Reps K φ H ds vs → ds.length = vs.length
  | [], _, h => by cases h; rfl
  | d :: ds, _, h => by
    cases h with
    | cons r q => simp [Reps.length q]
theorem Reps.get : ∀ {ds : List D} {vs : List V} {i : Nat} {d : D}, Reps K φ H ds vs → ds[i]? = some d → ∃ v, vs[i]? = some v ∧ Rep K φ H d v
  | _, _, _, _, .nil, e => by simp at e
  | _, _, 0, d, .cons r _, e => by simp at e; subst e; exact ⟨_, rfl, r⟩
  | _, _, i + 1, d, .cons _ t, e => by
    obtain ⟨u, h1, h2⟩ := Reps.get (i := i) (d := d) t (by simpa using e)
    exact ⟨u, by simpa using h1, h2⟩
theorem Reps.getV : ∀ {ds : List D} {vs : List V} {i : Nat} {v : V}, Reps K φ H ds vs → vs[i]? = some v → ∃ d, ds[i]? = some d ∧ Rep K φ H d v
  | _, _, _, _, .nil, e => by simp at e
  | _, _, 0, d, .cons r _, e => by simp at e; subst e; exact ⟨_, rfl, r⟩
  | _, _, i + 1, d, .cons _ t, e => by
    obtain ⟨u, h1, h2⟩ := Reps.getV (i := i) (v := d) t (by simpa using e)
    exact ⟨u, by simpa using h1, h2⟩
theorem Reps.append : ∀ {a b : List D} {u w : List V}, Reps K φ H a u → Reps K φ H b w → Reps K φ H (a ++ b) (u ++ w)
  | _, _, _, _, .nil, s => s
  | _, _, _, _, .cons r t, s => .cons r (Reps.append t s)
theorem Reps.take : ∀ {a : List D} {u : List V} (n : Nat), Reps K φ H a u → Reps K φ H (a.take n) (u.take n)
  | _, _, 0, _ => .nil
  | _, _, _ + 1, .nil => .nil
  | _, _, n + 1, .cons r t => .cons r (Reps.take n t)
theorem Reps.drop : ∀ {a : List D} {u : List V} (n : Nat), Reps K φ H a u → Reps K φ H (a.drop n) (u.drop n)
  | _, _, 0, r => r
  | _, _, _ + 1, .nil => .nil
  | _, _, n + 1, .cons _ t => Reps.drop n t
theorem Reps.set {d : D} {v : V} (r : Rep K φ H d v) : ∀ {a : List D} {u : List V} (i : Nat), Reps K φ H a u → Reps K φ H (a.set i d) (u.set i v)
  | _, _, _, .nil => .nil
  | _, _, 0, .cons _ t => .cons r t
  | _, _, i + 1, .cons q t => .cons q (Reps.set r i t)
theorem Reps.dropLast {a : List D} {u : List V} (r : Reps K φ H a u) : Reps K φ H a.dropLast u.dropLast := by
  rw [List.dropLast_eq_take, List.dropLast_eq_take, r.length]
  exact r.take _
end

/-- the slots -/
structure EnvR (K : PySem.W.Frag) (φ : List Addr) (H : Hp) (σ : L2.St) (ρ : Env) : Prop where
  len : σ.length = ρ.length
  at_ : ∀ (i : Nat) (d : D), ρ[i]? = some (some d) → ∃ v, σ[i]? = some (some v) ∧ Rep K φ H d v
/-- a dict's pairs -/
abbrev RepK (K : PySem.W.Frag) (φ : List Addr) (H : Hp) : List (Key × D) → List (Key × V) → Prop := Paired fun p q => p.1 = q.1 ∧ Rep K φ H p.2 q.2
theorem RepK.mono {K : PySem.W.Frag} {φ φ' : List Addr} {H H' : Hp} (e : Ext φ φ') (k : Kp K H H') : ∀ {xs : List (Key × D)} {ys : List (Key × V)}, RepK K φ H xs ys → RepK K φ' H' xs ys
  | _, _, .nil => .nil
  | _, _, .cons r t => .cons ⟨r.1, r.2.mono e k⟩ (RepK.mono e k t)
/-- an object of the store -/
def RepO (K : PySem.W.Frag) (φ : List Addr) (H : Hp) : MO → HO → Prop
  | .lst xs, o => ∃ vs, o = .lst vs ∧ Reps K φ H xs vs
  | .dk kvs, o => ∃ ws, o = .dK ws ∧ RepK K φ H kvs ws
theorem RepO.mono {K : PySem.W.Frag} {φ φ' : List Addr} {H H' : Hp} (e : Ext φ φ') (k : Kp K H H') : ∀ {m : MO} {o : HO}, RepO K φ H m o → RepO K φ' H' m o
  | .lst _, _, ⟨vs, h, r⟩ => ⟨vs, h, Reps.mono e k _ _ r⟩
  | .dk _, _, ⟨ws, h, r⟩ => ⟨ws, h, RepK.mono e k r⟩
theorem RepO.fre {K : PySem.W.Frag} {φ : List Addr} {H : Hp} {a : Addr} {m : MO} {o : HO} (h : RepO K φ H m o) (e : H a = some o) : Fre H a := by
  cases m with
  | lst xs =>
    obtain ⟨vs, rfl, _⟩ := h
    exact .inr (.inl ⟨vs, e⟩)
  | dk kvs =>
    obtain ⟨ws, rfl, _⟩ := h
    exact .inr (.inr ⟨ws, e⟩)
/-- the store -/
structure StR (K : PySem.W.Frag) (φ : List Addr) (H : Hp) (μ : Store) : Prop where
  len : φ.length = μ.length
  nd : φ.Nodup
  at_ : ∀ (n : Nat) (m : MO), μ[n]? = some m → ∃ a o, φ[n]? = some a ∧ H a = some o ∧ RepO K φ H m o
section
variable {K : PySem.W.Frag} {φ φ' : List Addr} {H H' : Hp} {σ : L2.St} {ρ : Env} {μ : Store}
theorem EnvR.mono (h : EnvR K φ H σ ρ) (e : Ext φ φ') (k : Kp K H H') : EnvR K φ' H' σ ρ := ⟨h.len, fun i d q => by
  obtain ⟨v, h1, h2⟩ := h.at_ i d q
  exact ⟨v, h1, h2.mono e k⟩⟩
theorem EnvR.set (h : EnvR K φ H σ ρ) (i : Nat) {d : D} {v : V} (r : Rep K φ H d v) : EnvR K φ H (σ.set i (some v)) (ρ.set i (some d)) := by
  refine ⟨by simp [h.len], fun j d' e => ?_⟩
  by_cases hj : i = j
  · subst hj
    have hl : i < ρ.length := by
      have := (List.getElem?_eq_some_iff.mp e).1
      simpa using this
    rw [List.getElem?_set_self hl] at e
    cases e
    exact ⟨v, by rw [List.getElem?_set_self (by rw [h.len]; exact hl)], r⟩
  · rw [List.getElem?_set_ne hj] at e
    obtain ⟨u, h1, h2⟩ := h.at_ j d' e
    exact ⟨u, by rw [List.getElem?_set_ne hj]; exact h1, h2⟩
theorem EnvR.wipe1 (h : EnvR K φ H σ ρ) (i : Nat) : EnvR K φ H (σ.set i none) (ρ.set i none) := by
  refine ⟨by simp [h.len], fun j d' e => ?_⟩
  by_cases hj : i = j
  · subst hj
    by_cases hl : i < ρ.length
    · rw [List.getElem?_set_self hl] at e
      cases e
    · rw [List.getElem?_eq_none (by simpa using hl)] at e
      cases e
  · rw [List.getElem?_set_ne hj] at e
    obtain ⟨u, h1, h2⟩ := h.at_ j d' e
    exact ⟨u, by rw [List.getElem?_set_ne hj]; exact h1, h2⟩
/-- the store over a heap in which all objects of the store stand -/
theorem StR.mono (h : StR K φ H μ) (k : Kp K H H') (hl : ∀ a o, a ∈ φ → H a = some o → H' a = some o) : StR K φ H' μ :=
  ⟨h.len, h.nd, fun n m e => by
    obtain ⟨a, o, h1, h2, h3⟩ := h.at_ n m e
    exact ⟨a, o, h1, hl a o (List.mem_of_getElem? h1) h2, h3.mono (Ext.refl _) k⟩⟩
theorem StR.new_ (h : StR K φ H μ) {p : Addr} {o : HO} (hp : H p = none) : StR K φ (upd H p o) μ :=
  h.mono (Kp.new hp) fun a vs _ e => by rw [upd_ne (ne_of_none e hp)]; exact e
theorem StR.addr0 (h : StR K φ H μ) {n : Nat} {a : Addr} (e : φ[n]? = some a) : ∃ m o, μ[n]? = some m ∧ H a = some o ∧ RepO K φ H m o := by
  have hl : n < μ.length := by rw [← h.len]; exact (List.getElem?_eq_some_iff.mp e).1
  obtain ⟨b, o, h1, h2, h3⟩ := h.at_ n μ[n] (List.getElem?_eq_getElem hl)
  rw [e] at h1
  cases h1
  exact ⟨_, o, List.getElem?_eq_getElem hl, h2, h3⟩
theorem StR.notin (h : StR K φ H μ) {p : Addr} (hp : H p = none) : p ∉ φ := fun m => by
  obtain ⟨n, e⟩ := List.getElem?_of_mem m
  obtain ⟨_, _, _, h2, _⟩ := h.addr0 e
  rw [hp] at h2
  cases h2
theorem StR.addr (h : StR K φ H μ) {n : Nat} {a : Addr} {xs : List D} (e : φ[n]? = some a) (em : μ[n]? = some (.lst xs)) : ∃ vs, H a = some (.lst vs) ∧ Reps K φ H xs vs := by
  obtain ⟨m, o, h1, h2, h3⟩ := h.addr0 e
  rw [em] at h1
  cases h1
  obtain ⟨vs, rfl, r⟩ := h3
  exact ⟨vs, h2, r⟩
theorem StR.addrK (h : StR K φ H μ) {n : Nat} {a : Addr} {xs : List (Key × D)} (e : φ[n]? = some a) (em : μ[n]? = some (.dk xs)) : ∃ ws, H a = some (.dK ws) ∧ RepK K φ H xs ws := by
  obtain ⟨m, o, h1, h2, h3⟩ := h.addr0 e
  rw [em] at h1
  cases h1
  obtain ⟨vs, rfl, r⟩ := h3
  exact ⟨vs, h2, r⟩
/-- a new object -/
theorem StR.pushO (h : StR K φ H μ) {p : Addr} {m : MO} {o : HO} (hp : H p = none) (r : RepO K φ H m o) : StR K (φ ++ [p]) (upd H p o) (μ ++ [m]) := by
  have k : Kp K H (upd H p o) := Kp.new hp
  refine ⟨by simp [h.len], ?_, fun n ys e => ?_⟩
  · rw [List.nodup_append]
    refine ⟨h.nd, by simp, fun a ha b hb => ?_⟩
    rw [List.mem_singleton] at hb
    subst hb
    rintro rfl
    exact h.notin hp ha
  · by_cases hn : n < μ.length
    · rw [List.getElem?_append_left hn] at e
      obtain ⟨a, us, h1, h2, h3⟩ := h.at_ n ys e
      exact ⟨a, us, Ext.get (Ext.snoc _ _) h1, by rw [upd_ne (ne_of_none h2 hp)]; exact h2, h3.mono (Ext.snoc _ _) k⟩
    · have hn' : n = μ.length := by
        have := (List.getElem?_eq_some_iff.mp e).1
        simp at this
        omega
      subst hn'
      rw [List.getElem?_append_right (Nat.le_refl _), Nat.sub_self] at e
      cases e
      exact ⟨p, o, by rw [← h.len, List.getElem?_append_right (Nat.le_refl _), Nat.sub_self]; rfl, upd_same, r.mono (Ext.snoc _ _) k⟩
theorem StR.push (h : StR K φ H μ) {p : Addr} {xs : List D} {vs : List V} (hp : H p = none) (r : Reps K φ H xs vs) : StR K (φ ++ [p]) (upd H p (.lst vs)) (μ ++ [.lst xs]) := h.pushO hp ⟨vs, rfl, r⟩
/-- an object of the store written -/
theorem StR.writeO (h : StR K φ H μ) {n : Nat} {a : Addr} {m : MO} {o : HO} (e : φ[n]? = some a) (r : RepO K φ H m o) : StR K φ (upd H a o) (μ.set n m) ∧ Kp K H (upd H a o) := by
  obtain ⟨m0, o0, _, h2, h3⟩ := h.addr0 e
  have k : Kp K H (upd H a o) := Kp.upd (h3.fre h2)
  refine ⟨⟨by simp [h.len], h.nd, fun j ys q => ?_⟩, k⟩
  by_cases hm : n = j
  · subst hm
    have hl : n < μ.length := by rw [← h.len]; exact (List.getElem?_eq_some_iff.mp e).1
    rw [List.getElem?_set_self hl] at q
    cases q
    exact ⟨a, o, e, upd_same, r.mono (Ext.refl _) k⟩
  · rw [List.getElem?_set_ne hm] at q
    obtain ⟨b, ws, h1, h3, h4⟩ := h.at_ j ys q
    have hne : b ≠ a := by
      rintro rfl
      obtain ⟨l1, e1⟩ := List.getElem?_eq_some_iff.mp e
      obtain ⟨l2, e2⟩ := List.getElem?_eq_some_iff.mp h1
      exact hm ((List.getElem_inj h.nd).mp (e1.trans e2.symm))
    exact ⟨b, ws, h1, by rw [upd_ne hne]; exact h3, h4.mono (Ext.refl _) k⟩
theorem StR.write (h : StR K φ H μ) {n : Nat} {a : Addr} {xs : List D} {vs : List V} (e : φ[n]? = some a) (r : Reps K φ H xs vs) : StR K φ (upd H a (.lst vs)) (μ.set n (.lst xs)) ∧ Kp K H (upd H a (.lst vs)) := h.writeO e ⟨vs, rfl, r⟩
end

/-! ### what is evaluated -/
abbrev Ev := Env → Store → Option (D × Store)
abbrev EvT := Env → Store → Option (Bool × Store)
abbrev EvA := Env → Store → Option (List D × Store)
abbrev EvO := Env → Store → Option (Option Int × Store)
inductive Fl where
  | nx | bk | ct | rt (d : D)
abbrev EvS := Env → Store → Option (Fl × Env × Store)

/-- behind: more lists, tuples kept, the store held -/
structure Bh (K : PySem.W.Frag) (φ : List Addr) (H : Hp) (φ' : List Addr) (H' : Hp) (μ' : Store) : Prop where
  ext : Ext φ φ'
  kp : Kp K H H'
  st : StR K φ' H' μ'
theorem Bh.refl {K : PySem.W.Frag} {φ : List Addr} {H : Hp} {μ : Store} (h : StR K φ H μ) : Bh K φ H φ H μ := ⟨Ext.refl _, Kp.refl _, h⟩
theorem Bh.trans {K : PySem.W.Frag} {φ φ1 φ2 : List Addr} {H H1 H2 : Hp} {μ1 μ2 : Store} (a : Bh K φ H φ1 H1 μ1) (b : Bh K φ1 H1 φ2 H2 μ2) : Bh K φ H φ2 H2 μ2 := ⟨a.ext.trans b.ext, a.kp.trans b.kp, b.st⟩

def tE (K : PySem.W.Frag) (ev : Ev) : TE := fun σ H Q => ∃ ρ μ φ d μ', EnvR K φ H σ ρ ∧ StR K φ H μ ∧ ev ρ μ = some (d, μ') ∧ ∀ v φ' H', Bh K φ H φ' H' μ' → Rep K φ' H' d v → Q v H'
def tT (K : PySem.W.Frag) (ev : EvT) : TT := fun σ H Q => ∃ ρ μ φ b μ', EnvR K φ H σ ρ ∧ StR K φ H μ ∧ ev ρ μ = some (b, μ') ∧ ∀ φ' H', Bh K φ H φ' H' μ' → Q b H'
def tA (K : PySem.W.Frag) (ev : EvA) : TA := fun σ H Q => ∃ ρ μ φ ds μ', EnvR K φ H σ ρ ∧ StR K φ H μ ∧ ev ρ μ = some (ds, μ') ∧ ∀ vs φ' H', Bh K φ H φ' H' μ' → Reps K φ' H' ds vs → Q vs H'
def tO (K : PySem.W.Frag) (ev : EvO) : TO := fun σ H Q => ∃ ρ μ φ o μ', EnvR K φ H σ ρ ∧ StR K φ H μ ∧ ev ρ μ = some (o, μ') ∧ ∀ φ' H', Bh K φ H φ' H' μ' → Q o H'
/-- a flow's end, as wished -/
def FlQ (K : PySem.W.Frag) (φ : List Addr) (H : Hp) (D : Ends) (ρ' : Env) (μ' : Store) : Fl → Prop
  | .nx => ∀ σ' φ' H', Bh K φ H φ' H' μ' → EnvR K φ' H' σ' ρ' → D.nx σ' H'
  | .bk => ∀ σ' φ' H', Bh K φ H φ' H' μ' → EnvR K φ' H' σ' ρ' → D.bk σ' H'
  | .ct => ∀ σ' φ' H', Bh K φ H φ' H' μ' → EnvR K φ' H' σ' ρ' → D.ct σ' H'
  | .rt d => ∀ v φ' H', Bh K φ H φ' H' μ' → Rep K φ' H' d v → D.rt v H'
def tS (K : PySem.W.Frag) (ev : EvS) : TS := fun D σ H => ∃ ρ μ φ f ρ' μ', EnvR K φ H σ ρ ∧ StR K φ H μ ∧ ev ρ μ = some (f, ρ', μ') ∧ FlQ K φ H D ρ' μ' f

abbrev PD (X : Cx) (e : Expr) (ev : Ev) : Prop := PE X e (tE X.K ev)
abbrev PDT (X : Cx) (e : Expr) (ev : EvT) : Prop := PT X e (tT X.K ev)
abbrev PDW (X : Cx) (e : Expr) (ev : EvT) : Prop := PW X e (tT X.K ev)
abbrev PDA (X : Cx) (es : List Expr) (ev : EvA) : Prop := PA X es (tA X.K ev)
abbrev PDO (X : Cx) (e : Option Expr) (ev : EvO) : Prop := PO X e (tO X.K ev)
abbrev PDS (X : Cx) (st : Stmt) (ev : EvS) : Prop := PS X st (tS X.K ev)
abbrev PDSs (X : Cx) (st : List Stmt) (ev : EvS) : Prop := PSs X st (tS X.K ev)

end PDL

namespace L2
open PySem PySem.Spec PyProof.Rows
/-! ### weakening -/
section
variable {X : Cx}
theorem PE.le {e : Expr} {t t' : TE} (h : PE X e t) (q : ∀ σ H Q, t' σ H Q → t σ H Q) : PE X e t' := ⟨fun pins s σ H Q I w => h.run pins s σ H Q I (q _ _ _ w)⟩
theorem PT.le {e : Expr} {t t' : TT} (h : PT X e t) (q : ∀ σ H Q, t' σ H Q → t σ H Q) : PT X e t' := ⟨fun pins s σ H Q I w => h.run pins s σ H Q I (q _ _ _ w)⟩
theorem PW.le {e : Expr} {t t' : TT} (h : PW X e t) (q : ∀ σ H Q, t' σ H Q → t σ H Q) : PW X e t' := ⟨fun wh pins s σ H Q I w => h.run wh pins s σ H Q I (q _ _ _ w)⟩
theorem PA.le {es : List Expr} {t t' : TA} (h : PA X es t) (q : ∀ σ H Q, t' σ H Q → t σ H Q) : PA X es t' := ⟨fun pos pins s σ H Q I w => h.run pos pins s σ H Q I (q _ _ _ w)⟩
theorem PS.le {st : Stmt} {t t' : TS} (h : PS X st t) (q : ∀ D σ H, t' D σ H → t D σ H) : PS X st t' := ⟨fun pins s σ H D I w => h.run pins s σ H D I (q _ _ _ w)⟩
theorem PSs.le {st : List Stmt} {t t' : TS} (h : PSs X st t) (q : ∀ D σ H, t' D σ H → t D σ H) : PSs X st t' := ⟨fun pins s σ H D I w => h.run pins s σ H D I (q _ _ _ w)⟩
theorem PO.le {e : Option Expr} {t t' : TO} (h : PO X e t) (q : ∀ σ H Q, t' σ H Q → t σ H Q) : PO X e t' := ⟨fun pins s σ H Q I w => h.run pins s σ H Q I (q _ _ _ w)⟩
end
end L2
set_option Elab.async false
set_option linter.all false
set_option maxRecDepth 100000
/-! PD1: expressions. -/
namespace PDL
open PySem PySem.Spec PyProof.Rows L2

/-! ### evaluators -/
def evC (d : D) : Ev := fun _ μ => some (d, μ)
def evVar (i : Nat) : Ev := fun ρ μ => match ρ[i]? with
  | some (some d) => some (d, μ)
  | _ => none
def evBin (f : D → D → Store → Option (D × Store)) (a b : Ev) : Ev := fun ρ μ => (a ρ μ).bind fun p => (b ρ p.2).bind fun q => f p.1 q.1 q.2
def evUn (f : D → Store → Option (D × Store)) (a : Ev) : Ev := fun ρ μ => (a ρ μ).bind fun p => f p.1 p.2
def evCmp (f : D → D → Store → Option Bool) (a b : Ev) : Ev := fun ρ μ => (a ρ μ).bind fun p => (b ρ p.2).bind fun q => (f p.1 q.1 q.2).map fun c => (.bl c, q.2)
def evTest (a : Ev) : EvT := fun ρ μ => (a ρ μ).bind fun p => match p.1 with
  | .bl b => some (b, p.2)
  | _ => none
def evTCmp (f : D → D → Store → Option Bool) (a b : Ev) : EvT := fun ρ μ => (a ρ μ).bind fun p => (b ρ p.2).bind fun q => (f p.1 q.1 q.2).map fun c => (c, q.2)
def evNotT (a : EvT) : EvT := fun ρ μ => (a ρ μ).map fun p => (!p.1, p.2)
def evAndT (a b : EvT) : EvT := fun ρ μ => (a ρ μ).bind fun p => if p.1 then b ρ p.2 else some (false, p.2)
def evOrT (a b : EvT) : EvT := fun ρ μ => (a ρ μ).bind fun p => if p.1 then some (true, p.2) else b ρ p.2
def evNot (a : Ev) : Ev := fun ρ μ => (a ρ μ).bind fun p => match p.1 with
  | .bl b => some (.bl (!b), p.2)
  | _ => none
def evAnd (a b : Ev) : Ev := fun ρ μ => (a ρ μ).bind fun p => match p.1 with
  | .bl c => if c then b ρ p.2 else some (.bl false, p.2)
  | _ => none
def evOr (a b : Ev) : Ev := fun ρ μ => (a ρ μ).bind fun p => match p.1 with
  | .bl c => if c then some (.bl true, p.2) else b ρ p.2
  | _ => none
def evIf (t : EvT) (a b : Ev) : Ev := fun ρ μ => (t ρ μ).bind fun p => if p.1 then a ρ p.2 else b ρ p.2
def evChain (f g : D → D → Store → Option Bool) (a b c : Ev) : Ev := fun ρ μ => (a ρ μ).bind fun p => (b ρ p.2).bind fun q => (f p.1 q.1 q.2).bind fun k =>
  if k then (c ρ q.2).bind fun r => (g q.1 r.1 r.2).map fun l => (.bl l, r.2) else some (.bl false, q.2)
def evTChain (f g : D → D → Store → Option Bool) (a b c : Ev) : EvT := fun ρ μ => (a ρ μ).bind fun p => (b ρ p.2).bind fun q => (f p.1 q.1 q.2).bind fun k =>
  if k then (c ρ q.2).bind fun r => (g q.1 r.1 r.2).map fun l => (l, r.2) else some (false, q.2)
def evNil : EvA := fun _ μ => some ([], μ)
def evCons (a : Ev) (r : EvA) : EvA := fun ρ μ => (a ρ μ).bind fun p => (r ρ p.2).map fun q => (p.1 :: q.1, q.2)
def evTup (a : EvA) : Ev := fun ρ μ => (a ρ μ).bind fun p => if p.1.length ≤ sizeLine then some (.tup p.1, p.2) else none
def evLst (a : EvA) : Ev := fun ρ μ => (a ρ μ).bind fun p => if p.1.length ≤ sizeLine then some (.loc p.2.length, p.2 ++ [.lst p.1]) else none
def evCall (m : List D → Store → Option (D × Store)) (a : EvA) : Ev := fun ρ μ => (a ρ μ).bind fun p => m p.1 p.2

/-! ### operations on values -/
def OpD (K : PySem.W.Frag) (r : R2) (f : D → D → Store → Option (D × Store)) : Prop := ∀ (φ : List Addr) (H : Hp) (μ : Store) (dx dy : D) (x y : V) (d : D) (μ' : Store) (Q : VK),
  StR K φ H μ → Rep K φ H dx x → Rep K φ H dy y → f dx dy μ = some (d, μ') → (∀ v φ' H', Bh K φ H φ' H' μ' → Rep K φ' H' d v → Q v H') → r x y H Q
def CmD (K : PySem.W.Frag) (r : R2) (f : D → D → Store → Option Bool) : Prop := ∀ (φ : List Addr) (H : Hp) (μ : Store) (dx dy : D) (x y : V) (c : Bool) (Q : VK),
  StR K φ H μ → Rep K φ H dx x → Rep K φ H dy y → f dx dy μ = some c → Q (.bl c) H → r x y H Q
def CaD (K : PySem.W.Frag) (r : List V → Hp → VK → Prop) (f : List D → Store → Option (D × Store)) : Prop := ∀ (φ : List Addr) (H : Hp) (μ : Store) (ds : List D) (vs : List V) (d : D) (μ' : Store) (Q : VK),
  StR K φ H μ → Reps K φ H ds vs → f ds μ = some (d, μ') → (∀ v φ' H', Bh K φ H φ' H' μ' → Rep K φ' H' d v → Q v H') → r vs H Q

section
variable {X : Cx} {pos : Pos} {a b c : Expr} {eva evb evc : Ev} {ta tb tc : EvT}

theorem pd_c {e : Expr} {d : D} {v : V} (h : PE X e (tC v)) (r : ∀ φ H, Rep X.K φ H d v) : PD X e (evC d) := by
  refine h.le fun σ H Q q => ?_
  obtain ⟨ρ, μ, φ, d', μ', hE, hS, e, k⟩ := q
  cases e
  exact k v φ H (Bh.refl hS) (r φ H)
theorem pd_int {i j} : PD X (.Constant (.int i) j pos) (evC (.int i)) := pd_c pe_int fun _ _ => .int i
theorem pd_bl {b j} : PD X (.Constant (.bool b) j pos) (evC (.bl b)) := pd_c pe_bl fun _ _ => .bl b
theorem pd_non {j} : PD X (.Constant .none j pos) (evC .non) := pd_c pe_non fun _ _ => .non
theorem pd_str {x j} : PD X (.Constant (.str x) j pos) (evC (.str x)) := pd_c pe_str fun _ _ => .str x
/-- a value that stands in the written part -/
def Lit (K : PySem.W.Frag) (d : D) (u : Value) : Prop := ∃ v, RelV v u ∧ ∀ φ H, Rep K φ H d v
theorem pd_glob {x : Str} {u : Value} {d : D} (hg : Gl X x) (hm : X.mg x = some u) (l : Lit X.K d u) (hd : (x == ("__debug__" : Str)) = false := by decide) : PD X (.Name x pos) (evC d) := by
  obtain ⟨v, r, q⟩ := l
  exact pd_c (pe_glob hg hm r hd) q
theorem pd_bty {x : Str} {n : String} (hg : Gl X x) (hm : X.mg x = none) (hv : bootBuiltins x = some (.type n)) (hn : x ≠ "__name__" := by decide) (hd : (x == ("__debug__" : Str)) = false := by decide) : PD X (.Name x pos) (evC (.ty n)) :=
  pd_c (v := .ty n) (pe_bltn hg hm hv rfl hn hd) fun _ _ => .ty n
theorem pd_var (i : Nat) {x : Str} (hN : X.N[i]? = some x := by rfl) (hv : Vis X.env.scope x := by first | exact Or.inl rfl | exact Or.inr (Or.inl rfl) | exact Or.inr (Or.inr rfl)) (hd : (x == ("__debug__" : Str)) = false := by decide)
    (hcd : (x == ("__classdict__" : Str)) = false := by decide) : PD X (.Name x pos) (evVar i) := by
  refine (pe_var hN hv hd hcd).le fun σ H Q q => ?_
  obtain ⟨ρ, μ, φ, d, μ', hE, hS, e, k⟩ := q
  unfold evVar at e
  split at e
  · rename_i d' e1
    cases e
    obtain ⟨v, h1, h2⟩ := hE.at_ i _ e1
    exact ⟨v, h1, k v φ H (Bh.refl hS) h2⟩
  · cases e
theorem bind2 {α β : Type} {o : Option α} {f : α → Option β} {b : β} (h : o.bind f = some b) : ∃ a, o = some a ∧ f a = some b := by
  cases o with
  | none => cases h
  | some a => exact ⟨a, rfl, h⟩
/-- two in a row -/
theorem tE_two {σ : L2.St} {H : Hp} {ρ : Env} {μ μ1 μ2 : Store} {φ : List Addr} {d1 d2 : D} {R : V → V → Hp → Prop} (hE : EnvR X.K φ H σ ρ) (hS : StR X.K φ H μ) (e1 : eva ρ μ = some (d1, μ1)) (e2 : evb ρ μ1 = some (d2, μ2))
    (k : ∀ x y φ' H', Bh X.K φ H φ' H' μ2 → Rep X.K φ' H' d1 x → Rep X.K φ' H' d2 y → R x y H') : tE X.K eva σ H fun x H1 => tE X.K evb σ H1 fun y H2 => R x y H2 :=
  ⟨ρ, μ, φ, d1, μ1, hE, hS, e1, fun x φ1 H1 b1 r1 => ⟨ρ, μ1, φ1, d2, μ2, hE.mono b1.ext b1.kp, b1.st, e2, fun y φ2 H2 b2 r2 => k x y φ2 H2 (b1.trans b2) (r1.mono b2.ext b2.kp) r2⟩⟩
theorem pd_bin {op : Operator} {r : R2} {f : D → D → Store → Option (D × Store)} (ho : OpR X (binaryOp op) r) (hf : OpD X.K r f) (ha : PD X a eva) (hb : PD X b evb) : PD X (.BinOp a op b pos) (evBin f eva evb) := by
  refine (pe_op ho ha hb).le fun σ H Q q => ?_
  obtain ⟨ρ, μ, φ, d, μ', hE, hS, e, k⟩ := q
  obtain ⟨⟨d1, μ1⟩, e1, e⟩ := bind2 e
  obtain ⟨⟨d2, μ2⟩, e2, e⟩ := bind2 e
  exact tE_two hE hS e1 e2 fun x y φ' H' bh r1 r2 => hf φ' H' μ2 d1 d2 x y d μ' Q bh.st r1 r2 e fun v φ3 H3 b3 r3 => k v φ3 H3 (bh.trans b3) r3
theorem cmp_of {K : PySem.W.Frag} {r : R2} {f : D → D → Store → Option Bool} (hf : CmD K r f) : OpD K r fun x y μ => (f x y μ).map fun c => (.bl c, μ) := by
  intro φ H μ dx dy x y d μ' Q hS r1 r2 e k
  cases q : f dx dy μ with
  | none => simp only [q] at e; cases e
  | some c =>
    simp only [q, Option.map_some, Option.some.injEq, Prod.mk.injEq] at e
    obtain ⟨rfl, rfl⟩ := e
    exact hf φ H μ dx dy x y c Q hS r1 r2 q (k (.bl c) φ H (Bh.refl hS) (.bl c))
theorem pd_cmp {op : CmpOp} {r : R2} {f : D → D → Store → Option Bool} (ho : OpR X (compareOp op) r) (hf : CmD X.K r f) (ha : PD X a eva) (hb : PD X b evb) (hm : behindInMarks op b = false) : PD X (.Compare a [op] [b] pos) (evCmp f eva evb) := by
  refine (pe_cmpR ho ha hb hm).le fun σ H Q q => ?_
  obtain ⟨ρ, μ, φ, d, μ', hE, hS, e, k⟩ := q
  obtain ⟨⟨d1, μ1⟩, e1, e⟩ := bind2 e
  obtain ⟨⟨d2, μ2⟩, e2, e⟩ := bind2 e
  exact tE_two hE hS e1 e2 fun x y φ' H' bh r1 r2 => cmp_of hf φ' H' μ2 d1 d2 x y d μ' Q bh.st r1 r2 e fun v φ3 H3 b3 r3 => k v φ3 H3 (bh.trans b3) r3
theorem pdt_cmp {op : CmpOp} {r : R2} {f : D → D → Store → Option Bool} (ho : OpR X (compareOp op) r) (hf : CmD X.K r f) (ha : PD X a eva) (hb : PD X b evb) (hm : behindInMarks op b = false) : PDT X (.Compare a [op] [b] pos) (evTCmp f eva evb) := by
  refine (pt_cmpR ho ha hb hm).le fun σ H Q q => ?_
  obtain ⟨ρ, μ, φ, c, μ', hE, hS, e, k⟩ := q
  obtain ⟨⟨d1, μ1⟩, e1, e⟩ := bind2 e
  obtain ⟨⟨d2, μ2⟩, e2, e⟩ := bind2 e
  refine tE_two (R := fun x y H2 => r x y H2 fun x' H' => ∃ k, x' = .bl k ∧ Q k H') hE hS e1 e2 fun x y φ' H' bh r1 r2 => ?_
  cases q : f d1 d2 μ2 with
  | none => simp only [q] at e; cases e
  | some c' =>
    simp only [q, Option.map_some, Option.some.injEq, Prod.mk.injEq] at e
    obtain ⟨rfl, rfl⟩ := e
    exact hf φ' H' μ2 d1 d2 x y c' _ bh.st r1 r2 q ⟨c', rfl, k φ' H' bh⟩
theorem pd_un {op : UnaryOp} {r : V → Hp → VK → Prop} {f : D → Store → Option (D × Store)} (ho : UnR X (unaryOp op) r)
    (hf : ∀ (φ : List Addr) (H : Hp) (μ : Store) (dx : D) (x : V) (d : D) (μ' : Store) (Q : VK), StR X.K φ H μ → Rep X.K φ H dx x → f dx μ = some (d, μ') → (∀ v φ' H', Bh X.K φ H φ' H' μ' → Rep X.K φ' H' d v → Q v H') → r x H Q)
    (ha : PD X a eva) : PD X (.UnaryOp op a pos) (evUn f eva) := by
  refine (pe_un ho ha).le fun σ H Q q => ?_
  obtain ⟨ρ, μ, φ, d, μ', hE, hS, e, k⟩ := q
  obtain ⟨⟨d1, μ1⟩, e1, e⟩ := bind2 e
  exact ⟨ρ, μ, φ, d1, μ1, hE, hS, e1, fun x φ1 H1 b1 r1 => hf φ1 H1 μ1 d1 x d μ' Q b1.st r1 e fun v φ2 H2 b2 r2 => k v φ2 H2 (b1.trans b2) r2⟩

/-! ### tests -/
theorem pdt_val {e : Expr} {ev : Ev} (h : PD X e ev) (he : ∀ whole, isTrue e X.env whole = (do let v ← whole; standAt e.pos; holding [v] (truthy v)) := by intro _; rfl) : PDT X e (evTest ev) := by
  refine (pt_val h he).le fun σ H Q q => ?_
  obtain ⟨ρ, μ, φ, c, μ', hE, hS, e, k⟩ := q
  obtain ⟨⟨d1, μ1⟩, e1, e⟩ := bind2 e
  refine ⟨ρ, μ, φ, d1, μ1, hE, hS, e1, fun x φ1 H1 b1 r1 => ?_⟩
  cases d1 with
  | bl b' =>
    cases e
    cases r1
    exact ⟨c, rfl, k φ1 H1 b1⟩
  | _ => cases e
theorem pdt_not (h : PDT X a ta) : PDT X (.UnaryOp .Not a pos) (evNotT ta) := by
  refine (pt_not h).le fun σ H Q q => ?_
  obtain ⟨ρ, μ, φ, c, μ', hE, hS, e, k⟩ := q
  cases q : ta ρ μ with
  | none => simp only [evNotT, q] at e; cases e
  | some p =>
    simp only [evNotT, q, Option.map_some, Option.some.injEq, Prod.mk.injEq] at e
    obtain ⟨rfl, rfl⟩ := e
    exact ⟨ρ, μ, φ, p.1, p.2, hE, hS, q, fun φ' H' bh => k φ' H' bh⟩
variable {rest : List Expr}
theorem pdw_and1 (h : PDT X a ta) : PDW X (.BoolOp .And [a] pos) ta := pw_and1 h
theorem pdw_or1 (h : PDT X a ta) : PDW X (.BoolOp .Or [a] pos) ta := pw_or1 h
theorem pdw_and (h : PDT X a ta) (hb : PDW X (.BoolOp .And (b :: rest) pos) tb) : PDW X (.BoolOp .And (a :: b :: rest) pos) (evAndT ta tb) := by
  refine (pw_and h hb).le fun σ H Q q => ?_
  obtain ⟨ρ, μ, φ, c, μ', hE, hS, e, k⟩ := q
  obtain ⟨⟨c1, μ1⟩, e1, e⟩ := bind2 e
  refine ⟨ρ, μ, φ, c1, μ1, hE, hS, e1, fun φ1 H1 b1 => ?_⟩
  cases c1 with
  | true => exact ⟨ρ, μ1, φ1, c, μ', hE.mono b1.ext b1.kp, b1.st, e, fun φ2 H2 b2 => k φ2 H2 (b1.trans b2)⟩
  | false =>
    cases e
    exact k φ1 H1 b1
theorem pdw_or (h : PDT X a ta) (hb : PDW X (.BoolOp .Or (b :: rest) pos) tb) : PDW X (.BoolOp .Or (a :: b :: rest) pos) (evOrT ta tb) := by
  refine (pw_or h hb).le fun σ H Q q => ?_
  obtain ⟨ρ, μ, φ, c, μ', hE, hS, e, k⟩ := q
  obtain ⟨⟨c1, μ1⟩, e1, e⟩ := bind2 e
  refine ⟨ρ, μ, φ, c1, μ1, hE, hS, e1, fun φ1 H1 b1 => ?_⟩
  cases c1 with
  | false => exact ⟨ρ, μ1, φ1, c, μ', hE.mono b1.ext b1.kp, b1.st, e, fun φ2 H2 b2 => k φ2 H2 (b1.trans b2)⟩
  | true =>
    cases e
    exact k φ1 H1 b1
theorem pdt_w (h : PDW X a ta) : PDT X a ta := PW.pt h
theorem pdt_chain {op op' : CmpOp} {r r' : R2} {f g : D → D → Store → Option Bool} (ho : OpR X (compareOp op) r) (hf : CmD X.K r f) (ho' : OpR X (compareOp op') r') (hg : CmD X.K r' g) (ha : PD X a eva) (hb : PD X b evb) (hc : PD X c evc)
    (hm : lastMarks [op, op'] [b, c] = false := by with_unfolding_all rfl) : PDT X (.Compare a [op, op'] [b, c] pos) (evTChain f g eva evb evc) := by
  refine (pt_chain ho ho' ha hb hc hm).le fun σ H Q q => ?_
  obtain ⟨ρ, μ, φ, d, μ', hE, hS, e, k⟩ := q
  obtain ⟨⟨d1, μ1⟩, e1, e⟩ := bind2 e
  obtain ⟨⟨d2, μ2⟩, e2, e⟩ := bind2 e
  obtain ⟨c1, e3, e⟩ := bind2 e
  refine ⟨ρ, μ, φ, d1, μ1, hE, hS, e1, fun x φ1 H1 b1 r1 => ⟨ρ, μ1, φ1, d2, μ2, hE.mono b1.ext b1.kp, b1.st, e2, fun y φ2 H2 b2 r2 => hf φ2 H2 μ2 d1 d2 x y c1 _ b2.st (r1.mono b2.ext b2.kp) r2 e3 ⟨c1, rfl, ?_⟩⟩⟩
  cases c1 with
  | true =>
    obtain ⟨⟨d3, μ3⟩, e4, e⟩ := bind2 e
    refine ⟨ρ, μ2, φ2, d3, μ3, hE.mono (b1.trans b2).ext (b1.trans b2).kp, b2.st, e4, fun z φ3 H3 b3 r3 => ?_⟩
    cases q : g d2 d3 μ3 with
    | none => simp only [q] at e; cases e
    | some l =>
      simp only [q, Option.map_some, Option.some.injEq, Prod.mk.injEq] at e
      obtain ⟨rfl, rfl⟩ := e
      exact hg φ3 H3 μ3 d2 d3 y z l _ b3.st (r2.mono b3.ext b3.kp) r3 q ⟨l, rfl, k φ3 H3 ((b1.trans b2).trans b3)⟩
  | false =>
    cases e
    exact ⟨false, rfl, k φ2 H2 (b1.trans b2)⟩
theorem pd_chain {op op' : CmpOp} {r r' : R2} {f g : D → D → Store → Option Bool} (ho : OpR X (compareOp op) r) (hf : CmD X.K r f) (ho' : OpR X (compareOp op') r') (hg : CmD X.K r' g) (ha : PD X a eva) (hb : PD X b evb) (hc : PD X c evc)
    (hm : lastMarks [op, op'] [b, c] = false := by with_unfolding_all rfl) : PD X (.Compare a [op, op'] [b, c] pos) (evChain f g eva evb evc) := by
  refine (pe_chain ho ho' ha hb hc hm).le fun σ H Q q => ?_
  obtain ⟨ρ, μ, φ, d, μ', hE, hS, e, k⟩ := q
  obtain ⟨⟨d1, μ1⟩, e1, e⟩ := bind2 e
  obtain ⟨⟨d2, μ2⟩, e2, e⟩ := bind2 e
  obtain ⟨c1, e3, e⟩ := bind2 e
  refine ⟨ρ, μ, φ, d1, μ1, hE, hS, e1, fun x φ1 H1 b1 r1 => ⟨ρ, μ1, φ1, d2, μ2, hE.mono b1.ext b1.kp, b1.st, e2, fun y φ2 H2 b2 r2 => hf φ2 H2 μ2 d1 d2 x y c1 _ b2.st (r1.mono b2.ext b2.kp) r2 e3 ⟨c1, rfl, ?_⟩⟩⟩
  cases c1 with
  | true =>
    obtain ⟨⟨d3, μ3⟩, e4, e⟩ := bind2 e
    refine ⟨ρ, μ2, φ2, d3, μ3, hE.mono (b1.trans b2).ext (b1.trans b2).kp, b2.st, e4, fun z φ3 H3 b3 r3 => ?_⟩
    cases q : g d2 d3 μ3 with
    | none => simp only [q] at e; cases e
    | some l =>
      simp only [q, Option.map_some, Option.some.injEq, Prod.mk.injEq] at e
      obtain ⟨rfl, rfl⟩ := e
      exact hg φ3 H3 μ3 d2 d3 y z l _ b3.st (r2.mono b3.ext b3.kp) r3 q (k (.bl l) φ3 H3 ((b1.trans b2).trans b3) (.bl l))
  | false =>
    cases e
    exact k (.bl false) φ2 H2 (b1.trans b2) (.bl false)

/-! ### and, or, not as values; a choice -/
theorem pd_one {op} (h : PD X a eva) : PD X (.BoolOp op [a] pos) eva := pe_one h
theorem pd_and (ha : PD X a eva) (hb : PD X (.BoolOp .And (b :: rest) pos) evb) : PD X (.BoolOp .And (a :: b :: rest) pos) (evAnd eva evb) := by
  refine (pe_and ha hb).le fun σ H Q q => ?_
  obtain ⟨ρ, μ, φ, d, μ', hE, hS, e, k⟩ := q
  obtain ⟨⟨d1, μ1⟩, e1, e⟩ := bind2 e
  refine ⟨ρ, μ, φ, d1, μ1, hE, hS, e1, fun x φ1 H1 b1 r1 => ?_⟩
  cases d1 with
  | bl c =>
    cases r1
    refine ⟨c, rfl, ?_⟩
    cases c with
    | true => exact ⟨ρ, μ1, φ1, d, μ', hE.mono b1.ext b1.kp, b1.st, e, fun v φ2 H2 b2 r2 => k v φ2 H2 (b1.trans b2) r2⟩
    | false =>
      cases e
      exact k _ φ1 H1 b1 (.bl false)
  | _ => cases e
theorem pd_or (ha : PD X a eva) (hb : PD X (.BoolOp .Or (b :: rest) pos) evb) : PD X (.BoolOp .Or (a :: b :: rest) pos) (evOr eva evb) := by
  refine (pe_or ha hb).le fun σ H Q q => ?_
  obtain ⟨ρ, μ, φ, d, μ', hE, hS, e, k⟩ := q
  obtain ⟨⟨d1, μ1⟩, e1, e⟩ := bind2 e
  refine ⟨ρ, μ, φ, d1, μ1, hE, hS, e1, fun x φ1 H1 b1 r1 => ?_⟩
  cases d1 with
  | bl c =>
    cases r1
    refine ⟨c, rfl, ?_⟩
    cases c with
    | false => exact ⟨ρ, μ1, φ1, d, μ', hE.mono b1.ext b1.kp, b1.st, e, fun v φ2 H2 b2 r2 => k v φ2 H2 (b1.trans b2) r2⟩
    | true =>
      cases e
      exact k _ φ1 H1 b1 (.bl true)
  | _ => cases e
theorem pd_not (ha : PD X a eva) : PD X (.UnaryOp .Not a pos) (evNot eva) := by
  refine (pe_not ha).le fun σ H Q q => ?_
  obtain ⟨ρ, μ, φ, d, μ', hE, hS, e, k⟩ := q
  obtain ⟨⟨d1, μ1⟩, e1, e⟩ := bind2 e
  refine ⟨ρ, μ, φ, d1, μ1, hE, hS, e1, fun x φ1 H1 b1 r1 => ?_⟩
  cases d1 with
  | bl c =>
    cases r1
    cases e
    exact ⟨c, rfl, k _ φ1 H1 b1 (.bl _)⟩
  | _ => cases e
theorem pd_if {c : Expr} (hc : PDT X c ta) (ha : PD X a eva) (hb : PD X b evb) : PD X (.IfExp c a b pos) (evIf ta eva evb) := by
  refine (pe_ifExp hc ha hb).le fun σ H Q q => ?_
  obtain ⟨ρ, μ, φ, d, μ', hE, hS, e, k⟩ := q
  obtain ⟨⟨c1, μ1⟩, e1, e⟩ := bind2 e
  refine ⟨ρ, μ, φ, c1, μ1, hE, hS, e1, fun φ1 H1 b1 => ?_⟩
  cases c1 with
  | true => exact ⟨ρ, μ1, φ1, d, μ', hE.mono b1.ext b1.kp, b1.st, e, fun v φ2 H2 b2 r2 => k v φ2 H2 (b1.trans b2) r2⟩
  | false => exact ⟨ρ, μ1, φ1, d, μ', hE.mono b1.ext b1.kp, b1.st, e, fun v φ2 H2 b2 r2 => k v φ2 H2 (b1.trans b2) r2⟩

/-! ### arguments, tuples, lists, calls -/
variable {es : List Expr} {eas : EvA}
theorem pda_nil : PDA X [] evNil := by
  refine pa_nil.le fun σ H Q q => ?_
  obtain ⟨ρ, μ, φ, d, μ', hE, hS, e, k⟩ := q
  cases e
  exact k [] φ H (Bh.refl hS) .nil
theorem pda_cons (ha : PD X a eva) (hr : PDA X es eas) (hs : starEach (a :: es) X.env = (false, eval a X.env) :: starEach es X.env := by rfl) : PDA X (a :: es) (evCons eva eas) := by
  refine (pa_cons ha hr hs).le fun σ H Q q => ?_
  obtain ⟨ρ, μ, φ, ds, μ', hE, hS, e, k⟩ := q
  obtain ⟨⟨d1, μ1⟩, e1, e⟩ := bind2 e
  cases q : eas ρ μ1 with
  | none => simp only [q] at e; cases e
  | some p =>
    simp only [q, Option.map_some, Option.some.injEq, Prod.mk.injEq] at e
    obtain ⟨rfl, rfl⟩ := e
    exact ⟨ρ, μ, φ, d1, μ1, hE, hS, e1, fun x φ1 H1 b1 r1 => ⟨ρ, μ1, φ1, p.1, p.2, hE.mono b1.ext b1.kp, b1.st, q, fun vs φ2 H2 b2 r2 => k _ φ2 H2 (b1.trans b2) (.cons (r1.mono b2.ext b2.kp) r2)⟩⟩
theorem pd_tup {x1} (h : PDA X es eas) : PD X (.Tuple es x1 pos) (evTup eas) := by
  refine (pe_tup h).le fun σ H Q q => ?_
  obtain ⟨ρ, μ, φ, d, μ', hE, hS, e, k⟩ := q
  obtain ⟨⟨ds, μ1⟩, e1, e⟩ := bind2 e
  split at e
  · rename_i hl
    cases e
    refine ⟨ρ, μ, φ, ds, μ1, hE, hS, e1, fun vs φ1 H1 b1 r1 => ⟨by rw [← r1.length]; exact hl, fun p hp => ?_⟩⟩
    have kp : Kp X.K H1 (upd H1 p (.tup vs)) := Kp.new hp
    exact k _ φ1 _ ⟨b1.ext, b1.kp.trans kp, b1.st.new_ hp⟩ (.tup (.inl (.inl upd_same)) (Reps.mono (Ext.refl _) kp _ _ r1))
  · cases e
theorem pd_lst (h : PDA X es eas) : PD X (.List es pos) (evLst eas) := by
  refine (pe_lst h).le fun σ H Q q => ?_
  obtain ⟨ρ, μ, φ, d, μ', hE, hS, e, k⟩ := q
  obtain ⟨⟨ds, μ1⟩, e1, e⟩ := bind2 e
  split at e
  · rename_i hl
    cases e
    refine ⟨ρ, μ, φ, ds, μ1, hE, hS, e1, fun vs φ1 H1 b1 r1 => ⟨by rw [← r1.length]; exact hl, fun p hp => ?_⟩⟩
    have kp : Kp X.K H1 (upd H1 p (.lst vs)) := Kp.new hp
    refine k _ (φ1 ++ [p]) _ ⟨b1.ext.trans (Ext.snoc _ _), b1.kp.trans kp, b1.st.push hp r1⟩ (.loc ?_)
    show (φ1 ++ [p])[μ1.length]? = some p
    rw [← b1.st.len, List.getElem?_append_right (Nat.le_refl _), Nat.sub_self]
    rfl
  · cases e
/-- a def's promise: what m says -/
def spD (K : PySem.W.Frag) (n : Nat) (m : List D → Store → Option (D × Store)) : Sp := fun vs H Q _ => ∃ φ ds μ d μ', ds.length = n ∧ Reps K φ H ds vs ∧ StR K φ H μ ∧ m ds μ = some (d, μ') ∧ ∀ v φ' H', Bh K φ H φ' H' μ' → Rep K φ' H' d v → Q v H'
theorem tCall_of {σ : L2.St} {H : Hp} {Q : VK} {n : Nat} {m : List D → Store → Option (D × Store)} (hn : ∀ ds μ r, m ds μ = some r → ds.length = n) (q : tE X.K (evCall m eas) σ H Q) : tCall (spD X.K n m) [] E0 (tA X.K eas) σ H Q := by
  obtain ⟨ρ, μ, φ, d, μ', hE, hS, e, k⟩ := q
  obtain ⟨⟨ds, μ1⟩, e1, e⟩ := bind2 e
  refine ⟨ρ, μ, φ, ds, μ1, hE, hS, e1, fun vs φ1 H1 b1 r1 => ?_⟩
  show spD X.K n m (vs ++ []) H1 Q E0
  rw [List.append_nil]
  exact ⟨φ1, ds, μ1, d, μ', hn _ _ _ e, r1, b1.st, e, fun v φ2 H2 b2 r2 => k v φ2 H2 (b1.trans b2) r2⟩
theorem pd_call {k n : Nat} {f : Addr} {fd : FuncData} {ps : List Str} {x : Str} {p : Pos} {m : List D → Store → Option (D × Store)} (F : FnOk X.prog X.w X.K X.mg X.base CX0 k f fd ps (spD X.K n m)) (hr : Room k X.A) (hg : Gl X x) (hm : X.mg x = some (.ref f)) (hk : PySem.W.keepIn X.K (.ref f) = true)
    (hb : Binds X.K fd ps []) (hn : ∀ ds μ r, m ds μ = some r → ds.length = n) (ha : PDA X (a :: es) eas) (hdb : (x == ("__debug__" : Str)) = false := by decide) (he : starEach (a :: es) X.env = (false, eval a X.env) :: starEach es X.env := by rfl)
    (hpl : (backTo pos (starEach es X.env)).any (·.1) = false := by rfl) : PD X (.Call (.Name x p) (a :: es) [] pos) (evCall m eas) :=
  (pe_call F hr hg hm hk hb .nil pass0 ha hdb he hpl).le fun σ H Q q => tCall_of hn q
theorem pd_callB {id : String} {r : List V → Hp → VK → Prop} {f : List D → Store → Option (D × Store)} {x : Str} {p : Pos} (hc : CallR X (.builtin id) r) (hf : CaD X.K r f) (hg : Gl X x) (hm : X.mg x = none) (hv : bootBuiltins x = some (.builtin id)) (ha : PDA X (a :: es) eas)
    (hn : x ≠ "__name__" := by decide) (hdb : (x == ("__debug__" : Str)) = false := by decide) (he : starEach (a :: es) X.env = (false, eval a X.env) :: starEach es X.env := by rfl) (hpl : (backTo pos (starEach es X.env)).any (·.1) = false := by rfl) :
    PD X (.Call (.Name x p) (a :: es) [] pos) (evCall f eas) := by
  refine (pe_callB hc hg hm hv ha hn hdb he hpl).le fun σ H Q q => ?_
  obtain ⟨ρ, μ, φ, d, μ', hE, hS, e, k⟩ := q
  obtain ⟨⟨ds, μ1⟩, e1, e⟩ := bind2 e
  exact ⟨ρ, μ, φ, ds, μ1, hE, hS, e1, fun vs φ1 H1 b1 r1 => hf φ1 H1 μ1 ds vs d μ' Q b1.st r1 e fun v φ2 H2 b2 r2 => k v φ2 H2 (b1.trans b2) r2⟩
theorem pd_callTy {T : String} {r : List V → Hp → VK → Prop} {f : List D → Store → Option (D × Store)} {x : Str} {p : Pos} (hc : CallR X (.type T) r) (hf : CaD X.K r f) (hg : Gl X x) (hm : X.mg x = none) (hv : bootBuiltins x = some (.type T)) (ha : PDA X (a :: es) eas)
    (hn : x ≠ "__name__" := by decide) (hdb : (x == ("__debug__" : Str)) = false := by decide) (he : starEach (a :: es) X.env = (false, eval a X.env) :: starEach es X.env := by rfl) (hpl : (backTo pos (starEach es X.env)).any (·.1) = false := by rfl) :
    PD X (.Call (.Name x p) (a :: es) [] pos) (evCall f eas) := by
  refine (pe_callTy hc hg hm hv ha hn hdb he hpl).le fun σ H Q q => ?_
  obtain ⟨ρ, μ, φ, d, μ', hE, hS, e, k⟩ := q
  obtain ⟨⟨ds, μ1⟩, e1, e⟩ := bind2 e
  exact ⟨ρ, μ, φ, ds, μ1, hE, hS, e1, fun vs φ1 H1 b1 r1 => hf φ1 H1 μ1 ds vs d μ' Q b1.st r1 e fun v φ2 H2 b2 r2 => k v φ2 H2 (b1.trans b2) r2⟩
/-- a subscript -/
theorem pd_ix {r : R2} {f : D → D → Store → Option (D × Store)} (hr : IxR X r) (hf : OpD X.K r f) (ha : PD X a eva) (hb : PD X b evb) (hs : PlainIx b) : PD X (.Subscript a b pos) (evBin f eva evb) := by
  refine (pe_ix hr ha hb hs).le fun σ H Q q => ?_
  obtain ⟨ρ, μ, φ, d, μ', hE, hS, e, k⟩ := q
  obtain ⟨⟨d1, μ1⟩, e1, e⟩ := bind2 e
  obtain ⟨⟨d2, μ2⟩, e2, e⟩ := bind2 e
  exact tE_two hE hS e1 e2 fun x y φ' H' bh r1 r2 => hf φ' H' μ2 d1 d2 x y d μ' Q bh.st r1 r2 e fun v φ3 H3 b3 r3 => k v φ3 H3 (bh.trans b3) r3
/-- slices -/
def evONone : EvO := fun _ μ => some (none, μ)
def evOSome (a : Ev) : EvO := fun ρ μ => (a ρ μ).bind fun p => match p.1 with
  | .int i => some (some i, p.2)
  | _ => none
theorem pdo_none : PDO X none evONone := by
  refine po_none.le fun σ H Q q => ?_
  obtain ⟨ρ, μ, φ, d, μ', hE, hS, e, k⟩ := q
  cases e
  exact k φ H (Bh.refl hS)
theorem pdo_some (h : PD X a eva) : PDO X (some a) (evOSome eva) := by
  refine (po_some h).le fun σ H Q q => ?_
  obtain ⟨ρ, μ, φ, o, μ', hE, hS, e, k⟩ := q
  obtain ⟨⟨d1, μ1⟩, e1, e⟩ := bind2 e
  refine ⟨ρ, μ, φ, d1, μ1, hE, hS, e1, fun x φ1 H1 b1 r1 => ?_⟩
  cases d1 with
  | int i =>
    cases r1
    cases e
    exact ⟨i, rfl, k φ1 H1 b1⟩
  | _ => cases e
def evSl (f : D → Option Int → Option Int → Store → Option (D × Store)) (a : Ev) (lo hi : EvO) : Ev := fun ρ μ => (a ρ μ).bind fun p => (lo ρ p.2).bind fun l => (hi ρ l.2).bind fun h => f p.1 l.1 h.1 h.2
theorem pd_slice {r : V → Option Int → Option Int → Hp → VK → Prop} {f : D → Option Int → Option Int → Store → Option (D × Store)} {lo hi : Option Expr} {el eh : EvO} {p2 : Pos} (hr : SlR X r)
    (hf : ∀ (φ : List Addr) (H : Hp) (μ : Store) (dx : D) (x : V) (l h : Option Int) (d : D) (μ' : Store) (Q : VK), StR X.K φ H μ → Rep X.K φ H dx x → f dx l h μ = some (d, μ') → (∀ v φ' H', Bh X.K φ H φ' H' μ' → Rep X.K φ' H' d v → Q v H') → r x l h H Q)
    (ha : PD X a eva) (hl : PDO X lo el) (hh : PDO X hi eh) : PD X (.Subscript a (.Slice lo hi none p2) pos) (evSl f eva el eh) := by
  refine (pe_slice hr ha hl hh).le fun σ H Q q => ?_
  obtain ⟨ρ, μ, φ, d, μ', hE, hS, e, k⟩ := q
  obtain ⟨⟨d1, μ1⟩, e1, e⟩ := bind2 e
  obtain ⟨⟨o1, μ2⟩, e2, e⟩ := bind2 e
  obtain ⟨⟨o2, μ3⟩, e3, e⟩ := bind2 e
  refine ⟨ρ, μ, φ, d1, μ1, hE, hS, e1, fun x φ1 H1 b1 r1 => ⟨ρ, μ1, φ1, o1, μ2, hE.mono b1.ext b1.kp, b1.st, e2, fun φ2 H2 b2 => ⟨ρ, μ2, φ2, o2, μ3, hE.mono (b1.trans b2).ext (b1.trans b2).kp, b2.st, e3, fun φ3 H3 b3 => ?_⟩⟩⟩
  exact hf φ3 H3 μ3 d1 x o1 o2 d μ' Q b3.st (r1.mono (b2.trans b3).ext (b2.trans b3).kp) e fun v φ4 H4 b4 r4 => k v φ4 H4 ((b1.trans (b2.trans b3)).trans b4) r4
/-- a method of a built-in type -/
def isTy (T : String) (μ : Store) : D → Bool
  | .str _ => decide (T = "str")
  | .loc n => match μ[n]? with
    | some (.lst _) => decide (T = "list")
    | _ => false
  | _ => false
def evMeth (T : String) (f : D → List D → Store → Option (D × Store)) (a : Ev) (as : EvA) : Ev := fun ρ μ => (a ρ μ).bind fun p => if isTy T p.2 p.1 then (as ρ p.2).bind fun q => f p.1 q.1 q.2 else none
/-- f: receiver, arguments -/
def MeD (K : PySem.W.Frag) (r : V → List V → Hp → VK → Prop) (f : D → List D → Store → Option (D × Store)) : Prop := ∀ (φ : List Addr) (H : Hp) (μ : Store) (dx : D) (ds : List D) (x : V) (vs : List V) (d : D) (μ' : Store) (Q : VK),
  StR K φ H μ → Rep K φ H dx x → Reps K φ H ds vs → f dx ds μ = some (d, μ') → (∀ v φ' H', Bh K φ H φ' H' μ' → Rep K φ' H' d v → Q v H') → r x vs H Q
theorem isTy_ty {K : PySem.W.Frag} {φ : List Addr} {H : Hp} {μ : Store} {T : String} {d : D} {x : V} (h : isTy T μ d = true) (hS : StR K φ H μ) (r : Rep K φ H d x) : tyV K T x H := by
  cases d with
  | str s =>
    cases r
    show T = "str"
    exact of_decide_eq_true h
  | loc n =>
    unfold isTy at h
    simp only at h
    split at h
    · rename_i xs hm
      have e : T = "list" := of_decide_eq_true h
      subst e
      cases r with
      | loc q =>
        obtain ⟨vs, h2, _⟩ := hS.addr q hm
        exact .inl ⟨rfl, vs, .inl (.inl h2)⟩
    · cases h
  | _ => cases h
theorem pd_meth {T id : String} {name : Str} {o : Expr} {evo : Ev} {apos : Pos} {r : V → List V → Hp → VK → Prop} {f : D → List D → Store → Option (D × Store)} (pa : PlainAttrs T) (slot : Slot T name id) (hty : typeOf (.builtin id) = pure (.type "method_descriptor")) (hm : MtR X id r) (hf : MeD X.K r f)
    (ho : PD X o evo) (ha : PDA X (a :: es) eas)
    (hbase : attributeBase o name X.env (eval o X.env) = eval o X.env := by rfl)
    (hfew : ((backTo pos (starEach (a :: es) X.env)).all (fun x => !x.1) && (backToKw pos (keywordEach [] X.env)).all (fun x => x.1.isSome)
      && decide ((a :: es).length + ([] : List Keyword).length + (if ([] : List Keyword).isEmpty then 0 else 1) < 30)) = true := by rfl)
    (hline : (apos.endLine == pos.line) = true := by rfl) (hs : starEach (a :: es) X.env = (false, eval a X.env) :: starEach es X.env := by rfl) (hplain : (backTo pos (starEach es X.env)).any (·.1) = false := by rfl) :
    PD X (.Call (.Attribute o name apos) (a :: es) [] pos) (evMeth T f evo eas) := by
  refine (pe_bm pa slot hty hm ho ha hbase hfew hline hs hplain).le fun σ H Q q => ?_
  obtain ⟨ρ, μ, φ, d, μ', hE, hS, e, k⟩ := q
  obtain ⟨⟨d1, μ1⟩, e1, e⟩ := bind2 e
  split at e
  · rename_i hT
    obtain ⟨⟨ds, μ2⟩, e2, e⟩ := bind2 e
    exact ⟨ρ, μ, φ, d1, μ1, hE, hS, e1, fun x φ1 H1 b1 r1 => ⟨isTy_ty hT b1.st r1, ρ, μ1, φ1, ds, μ2, hE.mono b1.ext b1.kp, b1.st, e2, fun vs φ2 H2 b2 r2 =>
      hf φ2 H2 μ2 d1 ds x vs d μ' Q b2.st (r1.mono b2.ext b2.kp) r2 e fun v φ3 H3 b3 r3 => k v φ3 H3 ((b1.trans b2).trans b3) r3⟩⟩
  · cases e
theorem pd_meth0 {T id : String} {name : Str} {o : Expr} {evo : Ev} {apos : Pos} {r : V → List V → Hp → VK → Prop} {f : D → List D → Store → Option (D × Store)} (pa : PlainAttrs T) (slot : Slot T name id) (hty : typeOf (.builtin id) = pure (.type "method_descriptor")) (hm : MtR X id r) (hf : MeD X.K r f)
    (ho : PD X o evo)
    (hbase : attributeBase o name X.env (eval o X.env) = eval o X.env := by rfl) (hline : (apos.endLine == pos.line) = true := by rfl) : PD X (.Call (.Attribute o name apos) [] [] pos) (evMeth T f evo evNil) := by
  refine (pe_bm0 pa slot hty hm ho hbase hline).le fun σ H Q q => ?_
  obtain ⟨ρ, μ, φ, d, μ', hE, hS, e, k⟩ := q
  obtain ⟨⟨d1, μ1⟩, e1, e⟩ := bind2 e
  split at e
  · rename_i hT
    exact ⟨ρ, μ, φ, d1, μ1, hE, hS, e1, fun x φ1 H1 b1 r1 => ⟨isTy_ty hT b1.st r1, hf φ1 H1 μ1 d1 [] x [] d μ' Q b1.st r1 .nil e fun v φ3 H3 b3 r3 => k v φ3 H3 (b1.trans b3) r3⟩⟩
  · cases e
end
end PDL
set_option Elab.async false
set_option linter.all false
set_option maxRecDepth 100000
/-! PD2: statements, loops, comprehensions, defs. -/
namespace PDL
open PySem PySem.Spec PyProof.Rows L2

/-! ### evaluators -/
abbrev EvG := D → Env → Store → Option (Env × Store)
abbrev EvGs := List D → Env → Store → Option (Env × Store)
/-- what a turn finds: nothing known, the end, an item -/
abbrev Rd1 := Nat → Store → Option (Option D)
abbrev EvI := Env → Store → Option (Rd1 × Store)
def egName (i : Nat) : EvG := fun d ρ μ => some (ρ.set i (some d), μ)
def egNil : EvGs := fun ds ρ μ => match ds with
  | [] => some (ρ, μ)
  | _ => none
def egCons (g : EvG) (r : EvGs) : EvGs := fun ds ρ μ => match ds with
  | d :: ds => (g d ρ μ).bind fun p => r ds p.1 p.2
  | [] => none
def egTup (n : Nat) (g : EvGs) : EvG := fun d ρ μ => match d with
  | .tup ds => if ds.length = n then g ds ρ μ else none
  | _ => none
def egSub (f : D → D → D → Store → Option Store) (a b : Ev) : EvG := fun d ρ μ => (a ρ μ).bind fun p => (b ρ p.2).bind fun q => (f p.1 q.1 d q.2).map fun μ' => (ρ, μ')
def evNx : EvS := fun ρ μ => some (.nx, ρ, μ)
def evBk : EvS := fun ρ μ => some (.bk, ρ, μ)
def evCt : EvS := fun ρ μ => some (.ct, ρ, μ)
def evSeq (a b : EvS) : EvS := fun ρ μ => (a ρ μ).bind fun p => match p.1 with
  | .nx => b p.2.1 p.2.2
  | f => some (f, p.2.1, p.2.2)
def evAsg (e : Ev) (g : EvG) : EvS := fun ρ μ => (e ρ μ).bind fun p => (g p.1 ρ p.2).map fun q => (.nx, q.1, q.2)
def evPar (i j : Nat) (a : EvA) : EvS := fun ρ μ => (a ρ μ).bind fun p => match p.1 with
  | [x, y] => some (.nx, (ρ.set i (some x)).set j (some y), p.2)
  | _ => none
def evPar3 (i j l : Nat) (a : EvA) : EvS := fun ρ μ => (a ρ μ).bind fun p => match p.1 with
  | [x, y, z] => some (.nx, ((ρ.set i (some x)).set j (some y)).set l (some z), p.2)
  | _ => none
def evDrop (e : Ev) : EvS := fun ρ μ => (e ρ μ).map fun p => (.nx, ρ, p.2)
def evRet (e : Ev) : EvS := fun ρ μ => (e ρ μ).map fun p => (.rt p.1, ρ, p.2)
def evRetN : EvS := fun ρ μ => some (.rt .non, ρ, μ)
def evIfS (t : EvT) (a b : EvS) : EvS := fun ρ μ => (t ρ μ).bind fun p => if p.1 then a ρ p.2 else b ρ p.2
def evAug (i : Nat) (f : D → D → Store → Option (D × Store)) (e : Ev) : EvS := fun ρ μ => match ρ[i]? with
  | some (some x) => (e ρ μ).bind fun p => (f x p.1 p.2).map fun q => (.nx, ρ.set i (some q.1), q.2)
  | _ => none
def evNever : EvS := fun _ _ => none
theorem fuel_ex : ∃ n : Nat, n = 1073741824 := ⟨_, rfl⟩
noncomputable def FUEL : Nat := Classical.choose fuel_ex
def whileN (t : EvT) (b : EvS) : Nat → EvS
  | 0, _, _ => none
  | n + 1, ρ, μ => (t ρ μ).bind fun p => if p.1 then (b ρ p.2).bind fun q => match q.1 with
      | .nx => whileN t b n q.2.1 q.2.2
      | .ct => whileN t b n q.2.1 q.2.2
      | .bk => some (.nx, q.2.1, q.2.2)
      | .rt d => some (.rt d, q.2.1, q.2.2)
    else some (.nx, ρ, p.2)
noncomputable def evWhile (t : EvT) (b : EvS) : EvS := whileN t b FUEL
def forN (rd : Rd1) (g : EvG) (b : EvS) : Nat → Nat → EvS
  | 0, _, _, _ => none
  | n + 1, i, ρ, μ => match rd i μ with
    | none => none
    | some none => some (.nx, ρ, μ)
    | some (some d) => (g d ρ μ).bind fun p => (b p.1 p.2).bind fun q => match q.1 with
      | .nx => forN rd g b n (i + 1) q.2.1 q.2.2
      | .ct => forN rd g b n (i + 1) q.2.1 q.2.2
      | .bk => some (.nx, q.2.1, q.2.2)
      | .rt d => some (.rt d, q.2.1, q.2.2)
noncomputable def evFor (it : EvI) (g : EvG) (b : EvS) : EvS := fun ρ μ => (it ρ μ).bind fun p => forN p.1 g b FUEL 0 ρ p.2
def wipeD (ρ : Env) : List Nat → Env
  | [] => ρ
  | v :: vs => (wipeD ρ vs).set v none
def evYes : EvT := fun _ μ => some (true, μ)
def compN (rd : Rd1) (g : D → Env → Option Env) (t : EvT) (e : Ev) (n : Nat) : Nat → Nat → Env → Store → Option Store
  | 0, _, _, _ => none
  | f + 1, i, ρ, μ => match rd i μ with
    | none => none
    | some none => some μ
    | some (some d) => (g d ρ).bind fun ρ1 => (t ρ1 μ).bind fun p => if p.1 then (e ρ1 p.2).bind fun q => match q.2[n]? with
        | some (.lst acc) => if acc.length < sizeLine then compN rd g t e n f (i + 1) ρ (q.2.set n (.lst (acc ++ [q.1]))) else none
        | _ => none
      else compN rd g t e n f (i + 1) ρ p.2
noncomputable def evComp (it : EvI) (g : D → Env → Option Env) (t : EvT) (e : Ev) (vs : List Nat) : Ev := fun ρ μ => (it ρ μ).bind fun p =>
  (compN p.1 g t e p.2.length FUEL 0 (wipeD ρ vs) (p.2 ++ [.lst []])).map fun μ' => (.loc p.2.length, μ')

/-! ### readings -/
def tG (K : PySem.W.Frag) (ev : EvG) : TG := fun v σ H Q => ∃ ρ μ φ d ρ' μ', EnvR K φ H σ ρ ∧ StR K φ H μ ∧ Rep K φ H d v ∧ ev d ρ μ = some (ρ', μ') ∧ ∀ σ' φ' H', Bh K φ H φ' H' μ' → EnvR K φ' H' σ' ρ' → Q σ' H'
def tGs (K : PySem.W.Frag) (ev : EvGs) : TGs := fun vs σ H Q => ∃ ρ μ φ ds ρ' μ', EnvR K φ H σ ρ ∧ StR K φ H μ ∧ Reps K φ H ds vs ∧ ev ds ρ μ = some (ρ', μ') ∧ ∀ σ' φ' H', Bh K φ H φ' H' μ' → EnvR K φ' H' σ' ρ' → Q σ' H'
/-- what is walked, turn by turn -/
def ItD (K : PySem.W.Frag) (J : It) (φ0 : List Addr) (H0 : Hp) (rd : Rd1) : Prop := ∀ (i : Nat) (φ : List Addr) (H : Hp) (μ : Store), Ext φ0 φ → Kp K H0 H → StR K φ H μ →
  (∀ d, rd i μ = some (some d) → J.go i H ∧ ∀ x H', J.yld i H x H' → Bh K φ H φ H' μ ∧ Rep K φ H' d x) ∧ (rd i μ = some none → J.stop i H)
def tI (K : PySem.W.Frag) (ev : EvI) : TI := fun σ H R => ∃ ρ μ φ rd μ', EnvR K φ H σ ρ ∧ StR K φ H μ ∧ ev ρ μ = some (rd, μ') ∧ ∀ J φ' H', Bh K φ H φ' H' μ' → ItD K J φ' H' rd → R J H'
end PDL
namespace L2
open PySem PySem.Spec PyProof.Rows
section
variable {X : Cx}
theorem PG.le {tg : Expr} {t t' : TG} (h : PG X tg t) (q : ∀ v σ H Q, t' v σ H Q → t v σ H Q) : PG X tg t' := ⟨fun pins s σ H v u Q I r w => h.run pins s σ H v u Q I r (q _ _ _ _ w)⟩
theorem PGs.le {tg : List Expr} {t t' : TGs} (h : PGs X tg t) (q : ∀ v σ H Q, t' v σ H Q → t v σ H Q) : PGs X tg t' := ⟨fun pins s σ H v u Q I r w => h.run pins s σ H v u Q I r (q _ _ _ _ w)⟩
theorem PI.le {tg it : Expr} {t t' : TI} (h : PI X tg it t) (q : ∀ σ H Q, t' σ H Q → t σ H Q) : PI X tg it t' := ⟨fun pins s σ H Q I w => h.run pins s σ H Q I (q _ _ _ w)⟩
theorem PTs.le {ifs : List Expr} {t t' : TT} (h : PTs X ifs t) (q : ∀ σ H Q, t' σ H Q → t σ H Q) : PTs X ifs t' := ⟨fun pins s σ H Q I w => h.run pins s σ H Q I (q _ _ _ w)⟩
end
end L2
namespace PDL
open PySem PySem.Spec PyProof.Rows L2
abbrev PDG (X : Cx) (e : Expr) (ev : EvG) : Prop := PG X e (tG X.K ev)
abbrev PDGs (X : Cx) (e : List Expr) (ev : EvGs) : Prop := PGs X e (tGs X.K ev)
abbrev PDI (X : Cx) (tg it : Expr) (ev : EvI) : Prop := PI X tg it (tI X.K ev)
abbrev PDTs (X : Cx) (ifs : List Expr) (ev : EvT) : Prop := PTs X ifs (tT X.K ev)

theorem FlQ.shift {K : PySem.W.Frag} {φ φ1 : List Addr} {H H1 : Hp} {D : Ends} {ρ' : Env} {μ1 μ' : Store} {f : Fl} (b : Bh K φ H φ1 H1 μ1) (h : FlQ K φ H D ρ' μ' f) : FlQ K φ1 H1 D ρ' μ' f := by
  cases f with
  | nx => exact fun σ' φ' H' b' e => h σ' φ' H' (b.trans b') e
  | bk => exact fun σ' φ' H' b' e => h σ' φ' H' (b.trans b') e
  | ct => exact fun σ' φ' H' b' e => h σ' φ' H' (b.trans b') e
  | rt d => exact fun v φ' H' b' e => h v φ' H' (b.trans b') e

section
variable {X : Cx} {pos : Pos} {e : Expr} {ev : Ev} {st : Stmt} {rest : List Stmt} {sa sb : EvS} {g : EvG} {gs : EvGs}

/-! ### targets -/
theorem pdg_name (i : Nat) {x : Str} (hN : X.N.Nodup) (hi : X.N[i]? = some x := by rfl) (hx : Loc X.env.scope x := by first | exact Or.inl rfl | exact Or.inr rfl) (hf : X.fn x = true ∨ X.env.scope.names.lookup x = some .local := by first | exact .inl rfl | exact .inr rfl | assumption) : PDG X (.Name x pos) (egName i) := by
  refine (pg_name hN hi hx hf).le fun v σ H Q q => ?_
  obtain ⟨ρ, μ, φ, d, ρ', μ', hE, hS, r, e, k⟩ := q
  cases e
  exact k _ φ H (Bh.refl hS) (hE.set i r)
theorem pdgs_nil : PDGs X [] egNil := by
  refine pgs_nil.le fun v σ H Q q => ?_
  obtain ⟨ρ, μ, φ, ds, ρ', μ', hE, hS, r, e, k⟩ := q
  cases ds with
  | nil =>
    cases r
    cases e
    exact ⟨rfl, k σ φ H (Bh.refl hS) hE⟩
  | cons _ _ => cases e
theorem pdgs_cons {es : List Expr} (h1 : PDG X e g) (h2 : PDGs X es gs) (hs : (assignEach (e :: es) X.env).map (·.2) = assign e X.env :: (assignEach es X.env).map (·.2) := by rfl) : PDGs X (e :: es) (egCons g gs) := by
  refine (pgs_cons h1 h2 hs).le fun v σ H Q q => ?_
  obtain ⟨ρ, μ, φ, ds, ρ', μ', hE, hS, r, e, k⟩ := q
  cases ds with
  | nil => cases e
  | cons d ds =>
    cases r with
    | cons r1 r2 =>
      obtain ⟨⟨ρ1, μ1⟩, e1, e⟩ := bind2 e
      refine ⟨_, _, rfl, ρ, μ, φ, d, ρ1, μ1, hE, hS, r1, e1, fun σ1 φ1 H1 b1 hE1 => ?_⟩
      exact ⟨ρ1, μ1, φ1, ds, ρ', μ', hE1, b1.st, Reps.mono b1.ext b1.kp _ _ r2, e, fun σ2 φ2 H2 b2 hE2 => k σ2 φ2 H2 (b1.trans b2) hE2⟩
theorem pdg_tup {es : List Expr} {k n : Nat} (hc : X.calm = true) (h : PDGs X es gs) (hn : (assignEach es X.env).length = n := by rfl) (hst : (assignEach es X.env).findIdx? (·.1) = none := by rfl) : PDG X (.Tuple es k pos) (egTup n gs) := by
  refine (pg_tup hc h hn hst).le fun v σ H Q q => ?_
  obtain ⟨ρ, μ, φ, d, ρ', μ', hE, hS, r, e, k⟩ := q
  cases d with
  | tup ds =>
    cases r with
    | tup hq hr =>
      rename_i a vs
      unfold egTup at e
      simp only at e
      split at e
      · rename_i hl
        exact ⟨a, vs, rfl, hq, by rw [← hr.length]; exact hl, ρ, μ, φ, ds, ρ', μ', hE, hS, hr, e, k⟩
      · cases e
  | _ => cases e
theorem pdg_sub {o i : Expr} {a b : Ev} {t : TSet} {f : D → D → D → Store → Option Store} (ho : PD X o a) (hi : PD X i b) (hs : PSet X t)
    (hf : ∀ (φ : List Addr) (H : Hp) (μ : Store) (d1 d2 d3 : D) (x y z : V) (μ' : Store) (Q : Hp → Prop), StR X.K φ H μ → Rep X.K φ H d1 x → Rep X.K φ H d2 y → Rep X.K φ H d3 z → f d1 d2 d3 μ = some μ' → (∀ H', Bh X.K φ H φ H' μ' → Q H') → t x y z H Q)
    (ha : ∀ v, assign (.Subscript o i pos) X.env v = (do
      let ov ← holding [v] (eval o X.env)
      let iv ← holding [v, ov] (eval i X.env)
      standAt pos
      holding [v, ov, iv] (setItem ov iv v)
      release [v, ov, iv] []) := by intro _; rfl) : PDG X (.Subscript o i pos) (egSub f a b) := by
  refine (pg_sub ho hi hs ha).le fun v σ H Q q => ?_
  obtain ⟨ρ, μ, φ, d, ρ', μ', hE, hS, r, e, k⟩ := q
  obtain ⟨⟨d1, μ1⟩, e1, e⟩ := bind2 e
  obtain ⟨⟨d2, μ2⟩, e2, e⟩ := bind2 e
  refine tE_two (R := fun o i H2 => t o i v H2 fun H3 => Q σ H3) hE hS e1 e2 fun x y φ' H' bh r1 r2 => ?_
  cases q : f d1 d2 d μ2 with
  | none => simp only [q] at e; cases e
  | some μ3 =>
    simp only [q, Option.map_some, Option.some.injEq, Prod.mk.injEq] at e
    obtain ⟨rfl, rfl⟩ := e
    exact hf φ' H' μ2 d1 d2 d x y v μ3 _ bh.st r1 r2 (r.mono bh.ext bh.kp) q fun H3 b3 => k σ φ' H3 (bh.trans b3) (hE.mono (bh.trans b3).ext (bh.trans b3).kp)

/-! ### statements -/
theorem pdss_nil : PDSs X [] evNx := by
  refine pss_nil.le fun D σ H q => ?_
  obtain ⟨ρ, μ, φ, f, ρ', μ', hE, hS, e, k⟩ := q
  cases e
  exact k σ φ H (Bh.refl hS) hE
theorem pdss_one (h : PDS X st sa) : PDSs X [st] sa := pss_one h
theorem pdss_cons (h1 : PDS X st sa) (h2 : PDSs X rest sb) : PDSs X (st :: rest) (evSeq sa sb) := by
  refine (pss_cons h1 h2).le fun D σ H q => ?_
  obtain ⟨ρ, μ, φ, f, ρ', μ', hE, hS, e, k⟩ := q
  obtain ⟨⟨f1, ρ1, μ1⟩, e1, e⟩ := bind2 e
  refine ⟨ρ, μ, φ, f1, ρ1, μ1, hE, hS, e1, ?_⟩
  cases f1 with
  | nx => exact fun σ1 φ1 H1 b1 hE1 => ⟨ρ1, μ1, φ1, f, ρ', μ', hE1, b1.st, e, k.shift b1⟩
  | bk => cases e; exact k
  | ct => cases e; exact k
  | rt d => cases e; exact k
theorem pds_asg {tg : Expr} (he : PD X e ev) (hg : PDG X tg g) (hs : swapsWithSole [tg] e pos.line X.env = pure false := by rfl) (hw : swappedStores [tg] e X.env = pure none := by rfl)
    (h1 : (assignEach [tg] X.env).map (·.2) = [assign tg X.env] := by rfl) : PDS X (.Assign [tg] e pos) (evAsg ev g) := by
  refine (ps_asg he hg hs hw h1).le fun D σ H q => ?_
  obtain ⟨ρ, μ, φ, f, ρ', μ', hE, hS, e, k⟩ := q
  obtain ⟨⟨d, μ1⟩, e1, e⟩ := bind2 e
  refine ⟨ρ, μ, φ, d, μ1, hE, hS, e1, fun x φ1 H1 b1 r1 => ?_⟩
  cases q : g d ρ μ1 with
  | none => simp only [q] at e; cases e
  | some p =>
    simp only [q, Option.map_some, Option.some.injEq, Prod.mk.injEq] at e
    obtain ⟨rfl, rfl, rfl⟩ := e
    exact ⟨ρ, μ1, φ1, d, p.1, p.2, hE.mono b1.ext b1.kp, b1.st, r1, q, fun σ2 φ2 H2 b2 hE2 => k σ2 φ2 H2 (b1.trans b2) hE2⟩
theorem pds_set (i : Nat) {x : Str} {pos' : Pos} (hN : X.N.Nodup) (he : PD X e ev) (hi : X.N[i]? = some x := by rfl) (hx : Loc X.env.scope x := by first | exact Or.inl rfl | exact Or.inr rfl) (hs : swapsWith e (some (.Name x pos')) pos.line X.env = pure false := by rfl) (hf : X.fn x = true ∨ X.env.scope.names.lookup x = some .local := by first | exact .inl rfl | exact .inr rfl | assumption) :
    PDS X (.Assign [.Name x pos'] e pos) (evAsg ev (egName i)) := by
  refine (ps_set hN hi hx he hs hf).le fun D σ H q => ?_
  obtain ⟨ρ, μ, φ, f, ρ', μ', hE, hS, e, k⟩ := q
  obtain ⟨⟨d, μ1⟩, e1, e⟩ := bind2 e
  cases e
  exact ⟨ρ, μ, φ, d, μ1, hE, hS, e1, fun x φ1 H1 b1 r1 => k _ φ1 H1 b1 ((hE.mono b1.ext b1.kp).set i r1)⟩
theorem pds_par (i j : Nat) {x y : Str} {a b : Expr} {ea : EvA} {px py pt : Pos} {kt k2 pt2} (hc : X.calm = true) (hN : X.N.Nodup) (ha : PDA X [a, b] ea) (hi : X.N[i]? = some x := by rfl) (hj : X.N[j]? = some y := by rfl) (hij : i ≠ j := by decide)
    (hx : X.env.scope.names.lookup x = some .local := by rfl) (hy : X.env.scope.names.lookup y = some .local := by rfl)
    (hw : swappedStores [.Tuple [.Name x px, .Name y py] kt pt] (.Tuple [a, b] k2 pt2) X.env = pure (some [x, y]) := by rfl)
    (hs : swapsWithSole [.Tuple [.Name x px, .Name y py] kt pt] (.Tuple [a, b] k2 pt2) pos.line X.env = pure false := by rfl) :
    PDS X (.Assign [.Tuple [.Name x px, .Name y py] kt pt] (.Tuple [a, b] k2 pt2) pos) (evPar i j ea) := by
  refine (ps_par hc hN hi hj hij hx hy ha hw hs).le fun D σ H q => ?_
  obtain ⟨ρ, μ, φ, f, ρ', μ', hE, hS, e, k⟩ := q
  obtain ⟨⟨ds, μ1⟩, e1, e⟩ := bind2 e
  refine ⟨ρ, μ, φ, ds, μ1, hE, hS, e1, fun vs φ1 H1 b1 r1 => ?_⟩
  match ds, e, r1 with
  | [d1, d2], e, .cons q1 (.cons q2 .nil) =>
    cases e
    exact ⟨_, _, rfl, k _ φ1 H1 b1 (((hE.mono b1.ext b1.kp).set i q1).set j q2)⟩
theorem pds_par3 (i j l : Nat) {x y z : Str} {a b c : Expr} {ea : EvA} {px py pz pt : Pos} {kt k2 pt2} (hc : X.calm = true) (hN : X.N.Nodup) (h : PS X (.Assign [.Tuple [.Name x px, .Name y py, .Name z pz] kt pt] (.Tuple [a, b, c] k2 pt2) pos) (tPar3 i j l (tA X.K ea))) :
    PDS X (.Assign [.Tuple [.Name x px, .Name y py, .Name z pz] kt pt] (.Tuple [a, b, c] k2 pt2) pos) (evPar3 i j l ea) := by
  refine h.le fun D σ H q => ?_
  obtain ⟨ρ, μ, φ, f, ρ', μ', hE, hS, e, k⟩ := q
  obtain ⟨⟨ds, μ1⟩, e1, e⟩ := bind2 e
  refine ⟨ρ, μ, φ, ds, μ1, hE, hS, e1, fun vs φ1 H1 b1 r1 => ?_⟩
  match ds, e, r1 with
  | [d1, d2, d3], e, .cons q1 (.cons q2 (.cons q3 .nil)) =>
    cases e
    exact ⟨_, _, _, rfl, k _ φ1 H1 b1 ((((hE.mono b1.ext b1.kp).set i q1).set j q2).set l q3)⟩
theorem pds_expr (he : PD X e ev) (hs : swapsWith e none pos.line X.env = pure false := by rfl) : PDS X (.Expr e pos) (evDrop ev) := by
  refine (ps_expr he hs).le fun D σ H q => ?_
  obtain ⟨ρ, μ, φ, f, ρ', μ', hE, hS, e, k⟩ := q
  cases q : ev ρ μ with
  | none => simp only [evDrop, q] at e; cases e
  | some p =>
    simp only [evDrop, q, Option.map_some, Option.some.injEq, Prod.mk.injEq] at e
    obtain ⟨rfl, rfl, rfl⟩ := e
    exact ⟨ρ, μ, φ, p.1, p.2, hE, hS, q, fun v φ1 H1 b1 r1 => k σ φ1 H1 b1 (hE.mono b1.ext b1.kp)⟩
theorem pds_ret (he : PD X e ev) : PDS X (.Return (some e) pos) (evRet ev) := by
  refine (ps_ret he).le fun D σ H q => ?_
  obtain ⟨ρ, μ, φ, f, ρ', μ', hE, hS, e, k⟩ := q
  cases q : ev ρ μ with
  | none => simp only [evRet, q] at e; cases e
  | some p =>
    simp only [evRet, q, Option.map_some, Option.some.injEq, Prod.mk.injEq] at e
    obtain ⟨rfl, rfl, rfl⟩ := e
    exact ⟨ρ, μ, φ, p.1, p.2, hE, hS, q, k⟩
theorem pds_if {c : Expr} {a b : List Stmt} {tc : EvT} (hc : PDT X c tc) (ha : PDSs X a sa) (hb : PDSs X b sb) : PDS X (.If c a b pos) (evIfS tc sa sb) := by
  refine (ps_if hc ha hb).le fun D σ H q => ?_
  obtain ⟨ρ, μ, φ, f, ρ', μ', hE, hS, e, k⟩ := q
  obtain ⟨⟨c1, μ1⟩, e1, e⟩ := bind2 e
  refine ⟨ρ, μ, φ, c1, μ1, hE, hS, e1, fun φ1 H1 b1 => ?_⟩
  cases c1 with
  | true => exact ⟨ρ, μ1, φ1, f, ρ', μ', hE.mono b1.ext b1.kp, b1.st, e, k.shift b1⟩
  | false => exact ⟨ρ, μ1, φ1, f, ρ', μ', hE.mono b1.ext b1.kp, b1.st, e, k.shift b1⟩
theorem pds_never : PDS X st evNever := (ps_never (X := X) (st := st)).le fun D σ H q => by
  obtain ⟨ρ, μ, φ, f, ρ', μ', hE, hS, e, k⟩ := q
  cases e
theorem pds_aug (i : Nat) {x : Str} {op : Operator} {ti : TIp} {pos' : Pos} {f : D → D → Store → Option (D × Store)} (hN : X.N.Nodup) (he : PD X e ev) (ho : PIp X op ti) (hf : OpD X.K ti f) (hi : X.N[i]? = some x := by rfl) (hx : Loc X.env.scope x := by first | exact Or.inl rfl | exact Or.inr rfl)
    (hff : X.fn x = true ∨ X.env.scope.names.lookup x = some .local := by first | exact .inl rfl | exact .inr rfl | assumption) : PDS X (.AugAssign (.Name x pos') op e pos) (evAug i f ev) := by
  refine (ps_aug hN hi hx he ho hff).le fun D σ H q => ?_
  obtain ⟨ρ, μ, φ, fl, ρ', μ', hE, hS, e, k⟩ := q
  unfold evAug at e
  split at e
  · rename_i x0 e0
    obtain ⟨⟨d, μ1⟩, e1, e⟩ := bind2 e
    obtain ⟨v0, h1, h2⟩ := hE.at_ i _ e0
    refine ⟨v0, h1, ρ, μ, φ, d, μ1, hE, hS, e1, fun y φ1 H1 b1 r1 => ?_⟩
    cases q : f x0 d μ1 with
    | none => simp only [q] at e; cases e
    | some p =>
      simp only [q, Option.map_some, Option.some.injEq, Prod.mk.injEq] at e
      obtain ⟨rfl, rfl, rfl⟩ := e
      exact hf φ1 H1 μ1 x0 d v0 y p.1 p.2 _ b1.st (h2.mono b1.ext b1.kp) r1 q fun v φ2 H2 b2 r2 => k _ φ2 H2 (b1.trans b2) ((hE.mono (b1.trans b2).ext (b1.trans b2).kp).set i r2)
  · cases e
/-! ### while, for -/
theorem pds_while {c : Expr} {body : List Stmt} {tc : EvT} (hp : PassesOwn (model X.prog X.w) X.A X.env X.xe) (hc : PDT X c tc) (hb : PDSs X body sb) : PDS X (.While c body [] pos) (evWhile tc sb) := by
  refine (ps_while hp hc hb).le fun D σ H q => ?_
  obtain ⟨ρ, μ, φ, f, ρ', μ', hE, hS, e, k⟩ := q
  refine ⟨fun m σ H => ∃ ρ μ φ f ρ' μ', EnvR X.K φ H σ ρ ∧ StR X.K φ H μ ∧ whileN tc sb m ρ μ = some (f, ρ', μ') ∧ FlQ X.K φ H D ρ' μ' f, ⟨FUEL, ρ, μ, φ, f, ρ', μ', hE, hS, e, k⟩, ?_⟩
  rintro m σ H ⟨ρ, μ, φ, f, ρ', μ', hE, hS, e, k⟩
  cases m with
  | zero => cases e
  | succ n =>
    obtain ⟨⟨c1, μ1⟩, e1, e⟩ := bind2 e
    refine ⟨ρ, μ, φ, c1, μ1, hE, hS, e1, fun φ1 H1 b1 => ?_⟩
    cases c1 with
    | false =>
      cases e
      exact k σ φ1 H1 b1 (hE.mono b1.ext b1.kp)
    | true =>
      obtain ⟨⟨f1, ρ2, μ2⟩, e2, e⟩ := bind2 e
      refine ⟨fun σ H => ∃ ρ μ φ f ρ' μ', EnvR X.K φ H σ ρ ∧ StR X.K φ H μ ∧ whileN tc sb n ρ μ = some (f, ρ', μ') ∧ FlQ X.K φ H D ρ' μ' f, fun σ' H' w => ⟨n, Nat.lt_succ_self n, w⟩, ?_⟩
      refine ⟨ρ, μ1, φ1, f1, ρ2, μ2, hE.mono b1.ext b1.kp, b1.st, e2, ?_⟩
      cases f1 with
      | nx => exact fun σ3 φ3 H3 b3 hE3 => ⟨ρ2, μ2, φ3, f, ρ', μ', hE3, b3.st, e, k.shift (b1.trans b3)⟩
      | ct => exact fun σ3 φ3 H3 b3 hE3 => ⟨ρ2, μ2, φ3, f, ρ', μ', hE3, b3.st, e, k.shift (b1.trans b3)⟩
      | bk =>
        cases e
        exact fun σ3 φ3 H3 b3 hE3 => k σ3 φ3 H3 (b1.trans b3) hE3
      | rt d =>
        cases e
        exact fun v φ3 H3 b3 r3 => k v φ3 H3 (b1.trans b3) r3
theorem pds_for {tg iter : Expr} {body : List Stmt} {it : EvI} (hp : PassesOwn (model X.prog X.w) X.A X.env X.xe) (hc : X.calm = true) (hi : PDI X tg iter it) (hg : PDG X tg g) (hb : PDSs X body sb)
    (hs : ∀ x, foldedSetIterable iter X.env x = pure x := by intro _; rfl) : PDS X (.For tg iter body [] pos) (evFor it g sb) := by
  refine (ps_for hp hc hi hg hb hs).le fun D σ H q => ?_
  obtain ⟨ρ, μ, φ, f, ρ', μ', hE, hS, e, k⟩ := q
  obtain ⟨⟨rd, μ1⟩, e1, e⟩ := bind2 e
  refine ⟨ρ, μ, φ, rd, μ1, hE, hS, e1, fun J φ1 H1 b1 hJ => ?_⟩
  refine ⟨fun i m σ H => ∃ ρ μ φ2 f ρ' μ', Ext φ1 φ2 ∧ Kp X.K H1 H ∧ EnvR X.K φ2 H σ ρ ∧ StR X.K φ2 H μ ∧ forN rd g sb m i ρ μ = some (f, ρ', μ') ∧ FlQ X.K φ2 H D ρ' μ' f,
    ⟨FUEL, ρ, μ1, φ1, f, ρ', μ', Ext.refl _, Kp.refl _, hE.mono b1.ext b1.kp, b1.st, e, k.shift b1⟩, ?_⟩
  rintro i m σ H ⟨ρ, μ, φ2, f, ρ', μ', hx, hk, hE, hS, e, k⟩
  obtain ⟨j1, j2⟩ := hJ i φ2 H μ hx hk hS
  cases m with
  | zero => cases e
  | succ n =>
    unfold forN at e
    cases q : rd i μ with
    | none => simp only [q] at e; cases e
    | some od =>
     cases od with
     | none =>
      simp only [q] at e
      cases e
      exact .inl ⟨j2 q, k σ φ2 H (Bh.refl hS) hE⟩
     | some d =>
      simp only [q] at e
      obtain ⟨jg, jy⟩ := j1 d q
      obtain ⟨⟨ρ3, μ3⟩, e3, e⟩ := bind2 e
      obtain ⟨⟨f4, ρ4, μ4⟩, e4, e⟩ := bind2 e
      refine .inr ⟨jg, fun σ H => ∃ ρ μ φ2 f ρ' μ', Ext φ1 φ2 ∧ Kp X.K H1 H ∧ EnvR X.K φ2 H σ ρ ∧ StR X.K φ2 H μ ∧ forN rd g sb n (i + 1) ρ μ = some (f, ρ', μ') ∧ FlQ X.K φ2 H D ρ' μ' f, fun σ' H' w => ⟨n, Nat.lt_succ_self n, w⟩, fun x H' y => ?_⟩
      obtain ⟨b2, r2⟩ := jy x H' y
      refine ⟨ρ, μ, φ2, d, ρ3, μ3, hE.mono b2.ext b2.kp, b2.st, r2, e3, fun σ3 φ3 H3 b3 hE3 => ?_⟩
      refine ⟨ρ3, μ3, φ3, f4, ρ4, μ4, hE3, b3.st, e4, ?_⟩
      have b23 := b2.trans b3
      cases f4 with
      | nx => exact fun σ5 φ5 H5 b5 hE5 => ⟨ρ4, μ4, φ5, f, ρ', μ', hx.trans (b23.trans b5).ext, hk.trans (b23.trans b5).kp, hE5, b5.st, e, k.shift (b23.trans b5)⟩
      | ct => exact fun σ5 φ5 H5 b5 hE5 => ⟨ρ4, μ4, φ5, f, ρ', μ', hx.trans (b23.trans b5).ext, hk.trans (b23.trans b5).kp, hE5, b5.st, e, k.shift (b23.trans b5)⟩
      | bk =>
        cases e
        exact fun σ5 φ5 H5 b5 hE5 => k σ5 φ5 H5 (b23.trans b5) hE5
      | rt d =>
        cases e
        exact fun v φ5 H5 b5 r5 => k v φ5 H5 (b23.trans b5) r5
end
/-! ### what is walked -/
def rdList (xs : List D) : Rd1 := fun i _ => some xs[i]?
def rdLoc (n : Nat) : Rd1 := fun i μ => match μ[n]? with
  | some (.lst xs) => some xs[i]?
  | _ => none
/-- a list of the store -/
def eiSeq (a : Ev) : EvI := fun ρ μ => (a ρ μ).bind fun p => match p.1 with
  | .loc n => match p.2[n]? with
    | some (.lst _) => some (rdLoc n, p.2)
    | _ => none
  | _ => none
def eiTup (a : Ev) : EvI := fun ρ μ => (a ρ μ).bind fun p => match p.1 with
  | .tup xs => some (rdList xs, p.2)
  | _ => none
def strs1 (x : Str) : List D := x.cps.toList.map fun c => .str ⟨#[c]⟩
def eiStr (a : Ev) : EvI := fun ρ μ => (a ρ μ).bind fun p => match p.1 with
  | .str x => some (rdList (strs1 x), p.2)
  | _ => none
def rdRange (n : Nat) : Rd1 := fun i _ => if i < n then some (some (.int (i : Nat))) else some none
def eiRange (a : EvA) : EvI := fun ρ μ => (a ρ μ).bind fun p => match p.1 with
  | [.int j] => if -(2 ^ 62) ≤ j ∧ j < 2 ^ 62 then some (rdRange j.toNat, p.2) else none
  | _ => none
def rdEnum (n : Nat) : Rd1 := fun i μ => match μ[n]? with
  | some (.lst xs) => some ((xs[i]?).map fun d => .tup [.int (i : Nat), d])
  | _ => none
def eiEnum (a : EvA) : EvI := fun ρ μ => (a ρ μ).bind fun p => match p.1 with
  | [.loc n] => match p.2[n]? with
    | some (.lst _) => some (rdEnum n, p.2)
    | _ => none
  | _ => none
section
variable {X : Cx} {pos : Pos} {e tg : Expr} {ev : Ev}
theorem rdLoc_item {K : PySem.W.Frag} {φ : List Addr} {H : Hp} {μ : Store} {n i : Nat} {a : Addr} {d : D} (hS : StR K φ H μ) (e : φ[n]? = some a) (h : rdLoc n i μ = some (some d)) : ∃ ws w, H a = some (.lst ws) ∧ ws[i]? = some w ∧ Rep K φ H d w := by
  unfold rdLoc at h
  split at h
  · rename_i xs em
    obtain ⟨ws, g2, g3⟩ := hS.addr e em
    obtain ⟨w, hw, r⟩ := g3.get (Option.some.inj h)
    exact ⟨ws, w, g2, hw, r⟩
  · cases h
theorem rdLoc_end {K : PySem.W.Frag} {φ : List Addr} {H : Hp} {μ : Store} {n i : Nat} {a : Addr} (hS : StR K φ H μ) (e : φ[n]? = some a) (h : rdLoc n i μ = some none) : ∃ ws, H a = some (.lst ws) ∧ ws.length ≤ i := by
  unfold rdLoc at h
  split at h
  · rename_i xs em
    obtain ⟨ws, g2, g3⟩ := hS.addr e em
    exact ⟨ws, g2, by rw [← g3.length]; exact List.getElem?_eq_none_iff.mp (Option.some.inj h)⟩
  · cases h
theorem pdi_loc (h : PD X e ev) : PDI X tg e (eiSeq ev) := by
  refine (pi_list h).le fun σ H R q => ?_
  obtain ⟨ρ, μ, φ, rd, μ', hE, hS, e, k⟩ := q
  obtain ⟨⟨d, μ1⟩, e1, e⟩ := bind2 e
  cases d with
  | loc n =>
    simp only at e
    split at e
    · rename_i xs em
      cases e
      refine ⟨ρ, μ, φ, .loc n, _, hE, hS, e1, fun x φ1 H1 b1 r1 => ?_⟩
      cases r1 with
      | loc hn =>
        rename_i a
        obtain ⟨vs, h2, h3⟩ := b1.st.addr hn em
        refine ⟨a, rfl, ⟨vs, .inl (.inl h2)⟩, k (Itl X.K a) φ1 H1 b1 fun i φ2 H2 μ2 hx hk hS2 => ⟨fun d hd => ?_, fun hd => ?_⟩⟩
        · obtain ⟨ws, w, g2, hw, rw'⟩ := rdLoc_item hS2 (hx.get hn) hd
          refine ⟨⟨ws, w, .inl (.inl g2), hw⟩, fun x H' y => ?_⟩
          obtain ⟨rfl, y⟩ := y
          have ex : w = x := Option.some.inj (hw.symm.trans (y ws (.inl (.inl g2))))
          subst ex
          exact ⟨Bh.refl hS2, rw'⟩
        · obtain ⟨ws, g2, hl⟩ := rdLoc_end hS2 (hx.get hn) hd
          exact ⟨ws, .inl (.inl g2), hl⟩
    · cases e
  | _ => cases e
theorem pdi_tup (h : PD X e ev) : PDI X tg e (eiTup ev) := by
  refine (pi_tup h).le fun σ H R q => ?_
  obtain ⟨ρ, μ, φ, rd, μ', hE, hS, e, k⟩ := q
  obtain ⟨⟨d, μ1⟩, e1, e⟩ := bind2 e
  cases d with
  | tup xs =>
    cases e
    refine ⟨ρ, μ, φ, .tup xs, μ1, hE, hS, e1, fun x φ1 H1 b1 r1 => ?_⟩
    cases r1 with
    | tup hq hr =>
      rename_i a vs
      refine ⟨a, rfl, ⟨vs, hq⟩, k (Itt X.K a) φ1 H1 b1 fun i φ2 H2 μ2 hx hk hS2 => ?_⟩
      have hq2 := hk.tup _ _ hq
      have hr2 := Reps.mono hx hk _ _ hr
      refine ⟨fun d hd => ?_, fun hd => ?_⟩
      · have hd' : xs[i]? = some d := Option.some.inj hd
        obtain ⟨w, hw, rw'⟩ := hr2.get hd'
        refine ⟨⟨vs, w, hq2, hw⟩, fun x H' y => ?_⟩
        obtain ⟨rfl, y⟩ := y
        have ex : w = x := Option.some.inj (hw.symm.trans (y vs hq2))
        subst ex
        exact ⟨Bh.refl hS2, rw'⟩
      · have hd' : xs[i]? = none := Option.some.inj hd
        exact ⟨vs, hq2, by rw [← hr2.length]; exact List.getElem?_eq_none_iff.mp hd'⟩
  | _ => cases e
theorem pdi_str (h : PD X e ev) : PDI X tg e (eiStr ev) := by
  refine (pi_str h).le fun σ H R q => ?_
  obtain ⟨ρ, μ, φ, rd, μ', hE, hS, e, k⟩ := q
  obtain ⟨⟨d, μ1⟩, e1, e⟩ := bind2 e
  cases d with
  | str x =>
    cases e
    refine ⟨ρ, μ, φ, .str x, μ1, hE, hS, e1, fun v φ1 H1 b1 r1 => ?_⟩
    cases r1
    refine ⟨x, rfl, k (Its x) φ1 H1 b1 fun i φ2 H2 μ2 hx hk hS2 => ⟨fun d hd => ?_, fun hd => ?_⟩⟩
    · have hd' : (x.cps.toList.map fun c => D.str ⟨#[c]⟩)[i]? = some d := Option.some.inj hd
      rw [List.getElem?_map] at hd'
      cases q : x.cps.toList[i]? with
      | none => rw [q] at hd'; cases hd'
      | some c =>
        rw [q] at hd'
        cases hd'
        have hc : x.cps[i]? = some c := by rw [← Array.getElem?_toList]; exact q
        have hl : i < x.cps.size := by
          have := (List.getElem?_eq_some_iff.mp q).1
          simpa using this
        refine ⟨hl, fun v H' y => ?_⟩
        obtain ⟨rfl, c', h1, rfl⟩ := y
        rw [hc] at h1
        cases h1
        exact ⟨Bh.refl hS2, .str _⟩
    · have hd' : (x.cps.toList.map fun c => D.str ⟨#[c]⟩)[i]? = none := Option.some.inj hd
      have := List.getElem?_eq_none_iff.mp hd'
      show x.cps.size ≤ i
      simpa using this
  | _ => cases e
theorem pdi_range {a : Expr} {eas : EvA} {p : Pos} (hg : Gl X "range") (hm : X.mg "range" = none) (ha : PDA X [a] eas) (hs : starEach [a] X.env = [(false, eval a X.env)] := by rfl) : PDI X tg (.Call (.Name "range" p) [a] [] pos) (eiRange eas) := by
  refine (pi_range1 hg hm ha hs).le fun σ H R q => ?_
  obtain ⟨ρ, μ, φ, rd, μ', hE, hS, e, k⟩ := q
  obtain ⟨⟨ds, μ1⟩, e1, e⟩ := bind2 e
  match ds, e, e1 with
  | [.int j], e, e1 =>
    simp only at e
    split at e
    · rename_i hj
      cases e
      refine ⟨ρ, μ, φ, [.int j], _, hE, hS, e1, fun vs φ1 H1 b1 r1 => ?_⟩
      match vs, r1 with
      | [_], .cons r .nil =>
        cases r
        refine ⟨j, rfl, hj.1, hj.2, k (Itr 0 j.toNat) φ1 H1 b1 fun i φ2 H2 μ2 hx hk hS2 => ⟨fun d hd => ?_, fun hd => ?_⟩⟩
        · unfold rdRange at hd
          split at hd
          · rename_i hi
            cases hd
            refine ⟨hi, fun x H' y => ?_⟩
            obtain ⟨rfl, rfl⟩ := y
            rw [Int.zero_add]
            exact ⟨Bh.refl hS2, .int _⟩
          · cases hd
        · unfold rdRange at hd
          split at hd
          · cases hd
          · rename_i hi
            show j.toNat ≤ i
            omega
    · cases e
theorem pdi_enum {a : Expr} {eas : EvA} {p tpos : Pos} {elts : List Expr} {kk : Nat} (hg : Gl X "enumerate") (hm : X.mg "enumerate" = none) (ha : PDA X [a] eas) (hs : starEach [a] X.env = [(false, eval a X.env)] := by rfl) : PDI X (.Tuple elts kk tpos) (.Call (.Name "enumerate" p) [a] [] pos) (eiEnum eas) := by
  refine (pi_enum hg hm ha hs).le fun σ H R q => ?_
  obtain ⟨ρ, μ, φ, rd, μ', hE, hS, e, k⟩ := q
  obtain ⟨⟨ds, μ1⟩, e1, e⟩ := bind2 e
  match ds, e, e1 with
  | [.loc n], e, e1 =>
    simp only at e
    split at e
    · rename_i xs em
      cases e
      refine ⟨ρ, μ, φ, [.loc n], _, hE, hS, e1, fun vs φ1 H1 b1 r1 => ?_⟩
      match vs, r1 with
      | [_], .cons (.loc hn) .nil =>
        rename_i a
        obtain ⟨vs, h2, h3⟩ := b1.st.addr hn em
        refine ⟨a, vs, rfl, .inl (.inl h2), k (Ite X.K a) φ1 H1 b1 fun i φ2 H2 μ2 hx hk hS2 => ⟨fun d hd => ?_, fun hd => ?_⟩⟩
        · unfold rdEnum at hd
          split at hd
          · rename_i ys em2
            obtain ⟨ws, g2, g3⟩ := hS2.addr (hx.get hn) em2
            cases q : ys[i]? with
            | none => rw [q] at hd; cases hd
            | some d0 =>
              rw [q] at hd
              cases hd
              obtain ⟨w, hw, rw'⟩ := g3.get q
              refine ⟨⟨ws, w, .inl (.inl g2), hw⟩, fun x H' y => ?_⟩
              obtain ⟨T, x', rfl, hT, rfl, y⟩ := y
              have ex : w = x' := Option.some.inj (hw.symm.trans (y ws (.inl (.inl g2))))
              subst ex
              have kp : Kp X.K H2 (upd H2 T (.tup [.int (i : Nat), w])) := Kp.new hT
              exact ⟨⟨Ext.refl _, kp, hS2.new_ hT⟩, .tup (.inl (.inl upd_same)) (.cons (.int _) (.cons (rw'.mono (Ext.refl _) kp) .nil))⟩
          · cases hd
        · unfold rdEnum at hd
          split at hd
          · rename_i ys em2
            obtain ⟨ws, g2, g3⟩ := hS2.addr (hx.get hn) em2
            have hd2 := Option.some.inj hd
            cases q : ys[i]? with
            | none => exact ⟨ws, .inl (.inl g2), by rw [← g3.length]; exact List.getElem?_eq_none_iff.mp q⟩
            | some d0 => rw [q] at hd2; cases hd2
          · cases hd
    · cases e

/-! ### comprehensions -/
theorem pdts_nil : PDTs X [] evYes := by
  refine pts_nil.le fun σ H Q q => ?_
  obtain ⟨ρ, μ, φ, b, μ', hE, hS, e, k⟩ := q
  cases e
  exact k φ H (Bh.refl hS)
theorem pdts_one {c : Expr} {t : EvT} (h : PDT X c t) : PDTs X [c] t := pts_one h
/-- a comprehension's own target -/
structure CG (K : PySem.W.Frag) (g : TG) (eg : D → Env → Option Env) (vs : List Nat) : Prop where
  run : ∀ (σ : L2.St) (φ : List Addr) (H : Hp) (ρ ρ' : Env) (d : D) (v : V) (Q : L2.St → Hp → Prop), EnvR K φ H (wipe σ vs) ρ → Rep K φ H d v → eg d ρ = some ρ' → (∀ σ2, EnvR K φ H σ2 ρ' → wipe σ2 vs = wipe σ vs → Q σ2 H) → g v (wipe σ vs) H Q
def egC1 (i : Nat) : D → Env → Option Env := fun d ρ => some (ρ.set i (some d))
def egC2 (i j : Nat) : D → Env → Option Env := fun d ρ => match d with
  | .tup [x, y] => some ((ρ.set i (some x)).set j (some y))
  | _ => none
theorem cg_name {K : PySem.W.Frag} (i : Nat) : CG K (gName i) (egC1 i) [i] := ⟨fun σ φ H ρ ρ' d v Q hE r e k => by
  cases e
  refine k _ (hE.set i r) ?_
  show (((σ.set i none).set i (some v)).set i none) = σ.set i none
  simp⟩
theorem cg_pair {K : PySem.W.Frag} (i j : Nat) (hij : i ≠ j) : CG K (gTup K 2 (gCons (gName i) (gCons (gName j) gNil))) (egC2 i j) [i, j] := ⟨fun σ φ H ρ ρ' d v Q hE r e k => by
  unfold egC2 at e
  split at e
  · rename_i d1 d2
    injection e with e
    subst e
    cases r with
    | tup hq hr =>
      cases hr with
      | cons r1 hr =>
        cases hr with
        | cons r2 hr =>
          cases hr
          refine ⟨_, _, rfl, hq, rfl, _, _, rfl, _, _, rfl, ⟨rfl, k _ ((hE.set i r1).set j r2) ?_⟩⟩
          show ((((((σ.set j none).set i none).set i (some _)).set j (some _)).set j none).set i none) = (σ.set j none).set i none
          rw [List.set_set, List.set_set, List.set_comm _ _ (Ne.symm hij), List.set_set, List.set_comm _ _ hij, List.set_set]
  · cases e⟩
theorem EnvR.wipe {K : PySem.W.Frag} {φ : List Addr} {H : Hp} {σ : L2.St} {ρ : Env} (h : EnvR K φ H σ ρ) : ∀ vs : List Nat, EnvR K φ H (wipe σ vs) (wipeD ρ vs)
  | [] => h
  | v :: vs => (EnvR.wipe h vs).wipe1 v
theorem tLc_of {K : PySem.W.Frag} {wi : EvI} {g : TG} {eg : D → Env → Option Env} {t : EvT} {ee : Ev} {vs : List Nat} (hg : CG K g eg vs) {σ : L2.St} {H : Hp} {Q : VK} (q : tE K (evComp wi eg t ee vs) σ H Q) : tLc (tI K wi) g (tT K t) (tE K ee) vs σ H Q := by
  obtain ⟨ρ, μ, φ, d, μ', hE, hS, e, k⟩ := q
  obtain ⟨⟨rd, μ1⟩, e1, e⟩ := bind2 e
  refine ⟨ρ, μ, φ, rd, μ1, hE, hS, e1, fun J φ1 H1 b1 hJ D hD => ?_⟩
  cases q : compN rd eg t ee μ1.length FUEL 0 (wipeD ρ vs) (μ1 ++ [.lst []]) with
  | none => simp only [q] at e; cases e
  | some μ2 =>
    simp only [q, Option.map_some, Option.some.injEq, Prod.mk.injEq] at e
    obtain ⟨rfl, rfl⟩ := e
    have kD : Kp K H1 (upd H1 D (.lst [])) := Kp.new hD
    have bD : Bh K φ1 H1 (φ1 ++ [D]) (upd H1 D (.lst [])) (μ1 ++ [.lst []]) := ⟨Ext.snoc _ _, kD, b1.st.push hD .nil⟩
    have gD : (φ1 ++ [D])[μ1.length]? = some D := by
      rw [← b1.st.len, List.getElem?_append_right (Nat.le_refl _), Nat.sub_self]
      rfl
    refine ⟨fun i m H => ∃ φ2 μ, Ext (φ1 ++ [D]) φ2 ∧ Kp K H1 H ∧ StR K φ2 H μ ∧ compN rd eg t ee μ1.length m i (wipeD ρ vs) μ = some μ2,
      ⟨FUEL, φ1 ++ [D], μ1 ++ [.lst []], Ext.refl _, kD, bD.st, q⟩, ?_⟩
    rintro i m H2 ⟨φ2, μ3, hx, hk, hS3, e3⟩
    obtain ⟨j1, j2⟩ := hJ i φ2 H2 μ3 (bD.ext.trans hx) hk hS3
    have hE2 : EnvR K φ2 H2 (wipe σ vs) (wipeD ρ vs) := (hE.wipe vs).mono (b1.ext.trans (bD.ext.trans hx)) (b1.kp.trans hk)
    cases m with
    | zero => cases e3
    | succ n =>
      unfold compN at e3
      cases q3 : rd i μ3 with
      | none => simp only [q3] at e3; cases e3
      | some od =>
       cases od with
       | none =>
        simp only [q3] at e3
        cases e3
        exact .inl ⟨j2 q3, k _ φ2 H2 ⟨b1.ext.trans (bD.ext.trans hx), b1.kp.trans hk, hS3⟩ (.loc (hx.get gD))⟩
       | some d =>
        simp only [q3] at e3
        obtain ⟨jg, jy⟩ := j1 d q3
        obtain ⟨ρ4, e4, e3⟩ := bind2 e3
        obtain ⟨⟨c5, μ5⟩, e5, e3⟩ := bind2 e3
        refine .inr ⟨jg, fun H => ∃ φ2 μ, Ext (φ1 ++ [D]) φ2 ∧ Kp K H1 H ∧ StR K φ2 H μ ∧ compN rd eg t ee μ1.length n (i + 1) (wipeD ρ vs) μ = some μ2, fun H' w => ⟨n, Nat.lt_succ_self n, w⟩, fun x H' y => ?_⟩
        obtain ⟨by1, ry⟩ := jy x H' y
        refine hg.run σ φ2 H' (wipeD ρ vs) ρ4 d x _ (hE2.mono by1.ext by1.kp) ry e4 fun σ4 hE4 hw4 => ⟨hw4, ?_⟩
        refine ⟨ρ4, μ3, φ2, c5, μ5, hE4, by1.st, e5, fun φ5 H5 b5 => ?_⟩
        have b25 := by1.trans b5
        cases c5 with
        | false => exact ⟨φ5, μ5, hx.trans b25.ext, hk.trans b25.kp, b25.st, e3⟩
        | true =>
          obtain ⟨⟨d6, μ6⟩, e6, e3⟩ := bind2 e3
          refine ⟨ρ4, μ5, φ5, d6, μ6, hE4.mono b5.ext b5.kp, b5.st, e6, fun yv φ6 H6 b6 r6 => ?_⟩
          have b26 := b25.trans b6
          have g6 : φ6[μ1.length]? = some D := (hx.trans b26.ext).get gD
          split at e3
          · rename_i acc a1
            obtain ⟨ws, a2, a3⟩ := b26.st.addr g6 a1
            split at e3
            · rename_i hl
              obtain ⟨w1, w2⟩ := b26.st.write g6 (a3.append (.cons r6 .nil))
              exact ⟨ws, a2, by rw [← a3.length]; exact hl, φ6, _, hx.trans b26.ext, (hk.trans b26.kp).trans w2, w1, e3⟩
            · cases e3
          · cases e3
theorem pd_lc {elt iter : Expr} {ifs : List Expr} {scope : Scope} {own : List (Str × Nat)} {wi : EvI} {g : TG} {eg : D → Env → Option Env} {t : EvT} {ee : Ev} (hc : X.calm = true) (hN : X.N.Nodup) (hi : PDI X tg iter wi) (ok : BlkOk X.N X.env.scope scope own)
    (cg : CG X.K g eg (own.map (·.2)))
    (hg : ∀ (s : Shared) (H : Hp) (C : Addr) (cl : List (Str × Addr)) (fp : List Addr), PG (X.blk s H scope (compEnvC scope cl C X.env) fp) tg g) (ht : ∀ (s : Shared) (H : Hp) (C : Addr) (cl : List (Str × Addr)) (fp : List Addr), PDTs (X.blk s H scope (compEnvC scope cl C X.env) fp) ifs t)
    (he : ∀ (s : Shared) (H : Hp) (C : Addr) (cl : List (Str × Addr)) (fp : List Addr), PD (X.blk s H scope (compEnvC scope cl C X.env) fp) elt ee) (hs : ∀ x, foldedSetIterable iter X.env x = pure x := by intro _; rfl) :
    PD X (.ListComp elt [⟨tg, iter, ifs, 0⟩] scope pos) (evComp wi eg t ee (own.map (·.2))) :=
  (pe_lc hc hN hi ok hg ht he hs).le fun σ H Q q => tLc_of cg q
theorem pds_setLc (i : Nat) {y : Str} {py spos : Pos} {elt iter : Expr} {ifs : List Expr} {scope : Scope} {own : List (Str × Nat)} {wi : EvI} {g : TG} {eg : D → Env → Option Env} {t : EvT} {ee : Ev} (hc : X.calm = true) (hN : X.N.Nodup) (hyl : X.env.scope.names.lookup y = some .local)
    (hsw : swapsWith (.ListComp elt [⟨tg, iter, ifs, 0⟩] scope pos) (some (.Name y py)) spos.line X.env = pure true) (hi : PDI X tg iter wi) (ok : BlkOk X.N X.env.scope scope own) (cg : CG X.K g eg (own.map (·.2)))
    (hg : ∀ (s : Shared) (H : Hp) (C : Addr) (cl : List (Str × Addr)) (fp : List Addr), PG (X.blk s H scope (compEnvC scope cl C X.env) fp) tg g) (ht : ∀ (s : Shared) (H : Hp) (C : Addr) (cl : List (Str × Addr)) (fp : List Addr), PDTs (X.blk s H scope (compEnvC scope cl C X.env) fp) ifs t)
    (he : ∀ (s : Shared) (H : Hp) (C : Addr) (cl : List (Str × Addr)) (fp : List Addr), PD (X.blk s H scope (compEnvC scope cl C X.env) fp) elt ee) (hy : X.N[i]? = some y := by rfl) (hs : ∀ x, foldedSetIterable iter X.env x = pure x := by intro _; rfl) :
    PDS X (.Assign [.Name y py] (.ListComp elt [⟨tg, iter, ifs, 0⟩] scope pos) spos) (evAsg (evComp wi eg t ee (own.map (·.2))) (egName i)) := by
  refine (ps_setLc (tt := tT X.K t) (te := tE X.K ee) hc hN hy hyl hsw hi ok hg ht he hs).le fun D σ H q => ?_
  obtain ⟨ρ, μ, φ, f, ρ', μ', hE, hS, e, k⟩ := q
  obtain ⟨⟨d, μ1⟩, e1, e⟩ := bind2 e
  cases e
  exact tLc_of cg ⟨ρ, μ, φ, d, μ1, hE, hS, e1, fun x φ1 H1 b1 r1 => k _ φ1 H1 b1 ((hE.mono b1.ext b1.kp).set i r1)⟩
end

/-! ### defs -/
def startD (N : List Str) (ds : List D) : Env := ds.map some ++ List.replicate (N.length - ds.length) none
def runF (N : List Str) (ev : EvS) (n : Nat) (ds : List D) (μ : Store) : Option (D × Store) :=
  if ds.length = n then match ev (startD N ds) μ with
    | some (.rt d, _, μ') => some (d, μ')
    | some (.nx, _, μ') => some (.non, μ')
    | _ => none
  else none
theorem start_envR {K : PySem.W.Frag} {φ : List Addr} {H : Hp} {N : List Str} {ds : List D} {vs : List V} (r : Reps K φ H ds vs) : EnvR K φ H (L2.start N vs) (startD N ds) := by
  refine ⟨by simp [L2.start, startD, r.length], fun i d e => ?_⟩
  unfold startD at e
  unfold L2.start
  by_cases hi : i < ds.length
  · rw [List.getElem?_append_left (by simpa using hi), List.getElem?_map] at e
    cases q : ds[i]? with
    | none => rw [q] at e; cases e
    | some d' =>
      rw [q] at e
      cases e
      obtain ⟨v, h1, h2⟩ := r.get q
      exact ⟨v, by rw [List.getElem?_append_left (by rw [List.length_map, ← r.length]; exact hi), List.getElem?_map, h1]; rfl, h2⟩
  · rw [List.getElem?_append_right (by simpa using hi)] at e
    rw [List.getElem?_replicate] at e
    split at e
    · cases e
    · cases e
theorem spD_start {K : PySem.W.Frag} {N : List Str} {ev : EvS} {n : Nat} {vs : List V} {H : Hp} {Q : VK} {E : XK} (h : spD K n (runF N ev n) vs H Q E) : tS K ev { nx := fun _ H' => Q .non H', rt := Q } (L2.start N vs) H := by
  obtain ⟨φ, ds, μ, d, μ', hl, r, hS, e, k⟩ := h
  unfold runF at e
  rw [if_pos hl] at e
  split at e
  · rename_i d' ρ' μ1 q
    cases e
    exact ⟨startD N ds, μ, φ, .rt d, ρ', μ', start_envR r, hS, q, k⟩
  · rename_i ρ' μ1 q
    cases e
    exact ⟨startD N ds, μ, φ, .nx, ρ', μ', start_envR r, hS, q, fun σ' φ' H' b _ => k .non φ' H' b .non⟩
  · cases e
theorem runF_len {N : List Str} {ev : EvS} {n : Nat} : ∀ ds μ r, runF N ev n ds μ = some r → ds.length = n := fun ds μ r e => by
  unfold runF at e
  split at e
  · assumption
  · cases e
section
variable {P : Program} {w : World} {K : PySem.W.Frag} {mg : Str → Option Value} {base : Heap}
/-- THE RULE for a def -/
theorem fnD {x qual : Str} {params : Arguments} {body : List Stmt} {scope : Scope} {f : Addr} {fd : FuncData} {N ps : List Str} {k n : Nat} {ev : EvS} (F : FunD K x qual params body scope [] [] f fd) (S : FnScope N ps scope) (hn : ps.length = n)
    (hbody : ∀ (cdv : Value) (A : Around) (outer : List PySem.Env) (s : Shared) (H : Hp) (E : XK), Room k (A.deeper (envOfC qual scope s.heap.objs.size f cdv)) →
      PDSs (cxOf CX0 P w K mg base N qual scope f cdv A outer s H E).nox body ev) : FnOk P w K mg base CX0 (k + 1) f fd ps (spD K n (runF N ev n)) := by
  refine F.ok S (fun vs H Q E h => ?_) (fun cdv A outer s H vs Q E hr h => ⟨_, (hbody cdv A outer s H E hr).nox, spD_start h⟩)
  obtain ⟨φ, ds, μ, d, μ', hl, r, _⟩ := h
  rw [← r.length, hl, hn]
/-- a def's promise in other words -/
theorem FnOk.to {k n : Nat} {f : Addr} {fd : FuncData} {ps : List Str} {m m' : List D → Store → Option (D × Store)} (F : FnOk P w K mg base CX0 k f fd ps (spD K n m)) (h : ∀ ds μ r, ds.length = n → m' ds μ = some r → m ds μ = some r) : FnOk P w K mg base CX0 k f fd ps (spD K n m') :=
  F.imp fun vs H Q E q => by
    obtain ⟨φ, ds, μ, d, μ', hl, r, hS, e, k⟩ := q
    exact ⟨φ, ds, μ, d, μ', hl, r, hS, h ds μ _ hl e, k⟩
end
end PDL
set_option Elab.async false
set_option linter.all false
set_option maxRecDepth 100000
/-! PD3: the operations. -/
namespace PDL
open PySem PySem.Spec PyProof.Rows L2

/-! ### sums and such -/
def dAdd : D → D → Store → Option (D × Store)
  | .int i, .int j, μ => some (.int (i + j), μ)
  | .str a, .str b, μ => if a.length + b.length ≤ sizeLine then some (.str (a ++ b), μ) else none
  | .tup a, .tup b, μ => if a.isEmpty = false ∧ a.length + b.length ≤ sizeLine then some (.tup (a ++ b), μ) else none
  | .loc m, .loc n, μ => match μ[m]?, μ[n]? with
    | some (.lst xs), some (.lst ys) => if xs.length + ys.length ≤ sizeLine then some (.loc μ.length, μ ++ [.lst (xs ++ ys)]) else none
    | _, _ => none
  | _, _, _ => none
def dSub : D → D → Store → Option (D × Store)
  | .int i, .int j, μ => some (.int (i - j), μ)
  | _, _, _ => none
instance (i j : Int) : Decidable (CMul i j) := by unfold CMul; infer_instance
instance (i j : Int) : Decidable (CDiv i j) := by unfold CDiv; infer_instance
instance (i j : Int) : Decidable (CPow i j) := by unfold CPow; infer_instance
def dMul : D → D → Store → Option (D × Store)
  | .int i, .int j, μ => if CMul i j then some (.int (i * j), μ) else none
  | _, _, _ => none
def dMod : D → D → Store → Option (D × Store)
  | .int i, .int j, μ => if 0 < j then some (.int (i % j), μ) else none
  | _, _, _ => none
def dFdiv : D → D → Store → Option (D × Store)
  | .int i, .int j, μ => if CDiv i j then some (.int (i / j), μ) else none
  | _, _, _ => none
def dPow : D → D → Store → Option (D × Store)
  | .int i, .int j, μ => if CPow i j then some (.int (i ^ j.toNat), μ) else none
  | _, _, _ => none
def dNeg : D → Store → Option (D × Store)
  | .int i, μ => some (.int (-i), μ)
  | _, _ => none
section
variable {K : PySem.W.Frag}
theorem dAdd_ok : OpD K (fun x y H Q => (rI0 (fun i j => .int (i + j)) x y H Q) ∨ (∃ i j, x = .str i ∧ y = .str j ∧ i.length + j.length ≤ sizeLine ∧ Q (.str (i ++ j)) H) ∨ rCatT K x y H Q ∨ rCat x y H Q) dAdd := by
  intro φ H μ dx dy x y d μ' Q hS r1 r2 e k
  unfold dAdd at e
  split at e
  · cases e; cases r1; cases r2
    exact .inl ⟨_, _, rfl, rfl, k _ φ H (Bh.refl hS) (.int _)⟩
  · split at e
    · rename_i hl
      cases e; cases r1; cases r2
      exact .inr (.inl ⟨_, _, rfl, rfl, hl, k _ φ H (Bh.refl hS) (.str _)⟩)
    · cases e
  · split at e
    · rename_i μ0 a b hl
      cases e
      cases r1 with
      | tup h1 q1 =>
        cases r2 with
        | tup h2 q2 =>
          rename_i pa va pb vb
          refine .inr (.inr (.inl ⟨pa, pb, va, vb, rfl, rfl, h1, h2, ?_, by rw [← q1.length, ← q2.length]; exact hl.2, fun hb => ?_, fun hb p hp => ?_⟩))
          · intro z
            have := q1.length
            rw [z] at this
            have hz : a = [] := List.length_eq_zero_iff.mp this
            rw [hz] at hl
            cases hl.1
          · subst hb
            have hz : b = [] := List.length_eq_zero_iff.mp q2.length
            subst hz
            rw [List.append_nil] at k
            exact k _ φ H (Bh.refl hS) (.tup h1 q1)
          · have kp : Kp K H (upd H p (.tup (va ++ vb))) := Kp.new hp
            exact k _ φ _ ⟨Ext.refl _, kp, hS.new_ hp⟩ (.tup (.inl (.inl upd_same)) (Reps.mono (Ext.refl _) kp _ _ (q1.append q2)))
    · cases e
  · split at e
    · rename_i m n μ0 xs ys e1 e2
      split at e
      · rename_i hl
        cases e
        cases r1 with
        | loc h1 =>
          cases r2 with
          | loc h2 =>
            obtain ⟨va, a1, a2⟩ := hS.addr h1 e1
            obtain ⟨vb, b1, b2⟩ := hS.addr h2 e2
            refine .inr (.inr (.inr ⟨_, _, va, vb, rfl, rfl, a1, b1, by rw [← a2.length, ← b2.length]; exact hl, fun p hp => ?_⟩))
            have kp : Kp K H (upd H p (.lst (va ++ vb))) := Kp.new hp
            refine k _ (φ ++ [p]) _ ⟨Ext.snoc _ _, kp, hS.push hp (a2.append b2)⟩ (.loc ?_)
            rw [← hS.len, List.getElem?_append_right (Nat.le_refl _), Nat.sub_self]
            rfl
      · cases e
    · cases e
  · cases e
theorem dSub_ok : OpD K (rI0 fun i j => .int (i - j)) dSub := by
  intro φ H μ dx dy x y d μ' Q hS r1 r2 e k
  unfold dSub at e
  split at e
  · cases e; cases r1; cases r2
    exact ⟨_, _, rfl, rfl, k _ φ H (Bh.refl hS) (.int _)⟩
  · cases e
theorem dI_ok {C : Int → Int → Prop} [∀ i j, Decidable (C i j)] {g : Int → Int → Int} {f : D → D → Store → Option (D × Store)} (hf : ∀ i j μ, f (.int i) (.int j) μ = if C i j then some (.int (g i j), μ) else none) (hn : ∀ x y μ r, f x y μ = some r → ∃ i j, x = .int i ∧ y = .int j) :
    OpD K (rI C fun i j => .int (g i j)) f := by
  intro φ H μ dx dy x y d μ' Q hS r1 r2 e k
  obtain ⟨i, j, rfl, rfl⟩ := hn _ _ _ _ e
  rw [hf] at e
  split at e
  · rename_i hc
    cases e; cases r1; cases r2
    exact ⟨_, _, rfl, rfl, hc, k _ φ H (Bh.refl hS) (.int _)⟩
  · cases e
theorem dMul_ok : OpD K (rI CMul fun i j => .int (i * j)) dMul := dI_ok (fun _ _ _ => rfl) fun x y μ r e => by
  unfold dMul at e
  split at e
  · exact ⟨_, _, rfl, rfl⟩
  · cases e
theorem dMod_ok : OpD K (rI (fun _ j => 0 < j) fun i j => .int (i % j)) dMod := dI_ok (fun _ _ _ => rfl) fun x y μ r e => by
  unfold dMod at e
  split at e
  · exact ⟨_, _, rfl, rfl⟩
  · cases e
theorem dFdiv_ok : OpD K (rI CDiv fun i j => .int (i / j)) dFdiv := dI_ok (fun _ _ _ => rfl) fun x y μ r e => by
  unfold dFdiv at e
  split at e
  · exact ⟨_, _, rfl, rfl⟩
  · cases e
theorem dPow_ok : OpD K (rI CPow fun i j => .int (i ^ j.toNat)) dPow := dI_ok (fun _ _ _ => rfl) fun x y μ r e => by
  unfold dPow at e
  split at e
  · exact ⟨_, _, rfl, rfl⟩
  · cases e
theorem dNeg_ok (φ : List Addr) (H : Hp) (μ : Store) (dx : D) (x : V) (d : D) (μ' : Store) (Q : VK) (hS : StR K φ H μ) (r : Rep K φ H dx x) (e : dNeg dx μ = some (d, μ')) (k : ∀ v φ' H', Bh K φ H φ' H' μ' → Rep K φ' H' d v → Q v H') : rU (fun i => .int (-i)) x H Q := by
  unfold dNeg at e
  split at e
  · cases e; cases r
    exact ⟨_, rfl, k _ φ H (Bh.refl hS) (.int _)⟩
  · cases e

/-! ### comparisons -/
def dLe : D → D → Store → Option Bool
  | .int i, .int j, _ => some (decide (i ≤ j))
  | .str a, .str b, _ => some (!decide (b.cps.toList < a.cps.toList))
  | _, _, _ => none
def dLt : D → D → Store → Option Bool
  | .int i, .int j, _ => some (decide (i < j))
  | _, _, _ => none
def dGt : D → D → Store → Option Bool
  | .int i, .int j, _ => some (decide (j < i))
  | _, _, _ => none
def dGe : D → D → Store → Option Bool
  | .int i, .int j, _ => some (decide (j ≤ i))
  | _, _, _ => none
theorem dLe_ok : CmD K (fun x y H Q => rI0 (fun i j => .bl (decide (i ≤ j))) x y H Q ∨ ∃ i j, x = .str i ∧ y = .str j ∧ Q (.bl (!decide (j.cps.toList < i.cps.toList))) H) dLe := by
  intro φ H μ dx dy x y c Q hS r1 r2 e k
  unfold dLe at e
  split at e
  · cases e; cases r1; cases r2
    exact .inl ⟨_, _, rfl, rfl, k⟩
  · cases e; cases r1; cases r2
    exact .inr ⟨_, _, rfl, rfl, k⟩
  · cases e
theorem dC_ok {g : Int → Int → Bool} {f : D → D → Store → Option Bool} (hf : ∀ i j μ, f (.int i) (.int j) μ = some (g i j)) (hn : ∀ x y μ r, f x y μ = some r → ∃ i j, x = .int i ∧ y = .int j) : CmD K (rI0 fun i j => .bl (g i j)) f := by
  intro φ H μ dx dy x y c Q hS r1 r2 e k
  obtain ⟨i, j, rfl, rfl⟩ := hn _ _ _ _ e
  rw [hf] at e
  cases e; cases r1; cases r2
  exact ⟨_, _, rfl, rfl, k⟩
theorem dLt_ok : CmD K (rI0 fun i j => .bl (decide (i < j))) dLt := dC_ok (fun _ _ _ => rfl) fun x y μ r e => by
  unfold dLt at e
  split at e
  · exact ⟨_, _, rfl, rfl⟩
  · cases e
theorem dGt_ok : CmD K (rI0 fun i j => .bl (decide (j < i))) dGt := dC_ok (fun _ _ _ => rfl) fun x y μ r e => by
  unfold dGt at e
  split at e
  · exact ⟨_, _, rfl, rfl⟩
  · cases e
theorem dGe_ok : CmD K (rI0 fun i j => .bl (decide (j ≤ i))) dGe := dC_ok (fun _ _ _ => rfl) fun x y μ r e => by
  unfold dGe at e
  split at e
  · exact ⟨_, _, rfl, rfl⟩
  · cases e
mutual
def pyD : D → Option PyData
  | .non => some .none
  | .bl b => some (.bool b)
  | .int i => some (.int i)
  | .str x => some (.str x)
  | .tup xs => (pyL xs).map .tuple
  | .rl xs => (pyL xs).map .list
  | _ => none
def pyL : List D → Option (List PyData)
  | [] => some []
  | d :: ds => (pyD d).bind fun p => (pyL ds).map fun q => p :: q
end
def py0 (μ : Store) : D → Option PyData
  | .loc n => match μ[n]? with
    | some (.lst xs) => (pyL xs).map .list
    | _ => none
  | d => pyD d
def pysM (μ : Store) : List D → Option (List PyData)
  | [] => some []
  | d :: ds => (py0 μ d).bind fun p => (pysM μ ds).map fun q => p :: q
def py (μ : Store) : D → Option PyData
  | .tup xs => (pysM μ xs).map .tuple
  | d => py0 μ d
mutual
theorem pyD_dp {φ : List Addr} {H : Hp} : ∀ (d : D) (v : V) (p : PyData), pyD d = some p → Rep K φ H d v → Dp K H v p
  | .non, _, _, e, r => by cases e; cases r; exact .non
  | .bl b, _, _, e, r => by cases e; cases r; exact .bl b
  | .int i, _, _, e, r => by cases e; cases r; exact .int i
  | .str x, _, _, e, r => by cases e; cases r; exact .str x
  | .tup xs, _, p, e, r => by
    cases r with
    | tup h q =>
      unfold pyD at e
      cases z : pyL xs with
      | none => rw [z] at e; cases e
      | some ps =>
        rw [z] at e
        cases e
        exact .tup h (pyL_dp xs _ ps z q)
  | .rl xs, _, p, e, r => by
    cases r with
    | rl h q =>
      unfold pyD at e
      cases z : pyL xs with
      | none => rw [z] at e; cases e
      | some ps =>
        rw [z] at e
        cases e
        exact .lst h.sq (pyL_dp xs _ ps z q)
  | .loc n, _, _, e, _ => by cases e
  | .ty n, _, _, e, _ => by cases e
  | .kd n, _, _, e, _ => by cases e
theorem pyL_dp {φ : List Addr} {H : Hp} : ∀ (ds : List D) (vs : List V) (ps : List PyData), pyL ds = some ps → Reps K φ H ds vs → DpAll K H vs ps
  | [], _, _, e, r => by cases e; cases r; exact .nil
  | d :: ds, _, ps, e, r => by
    cases r with
    | cons r1 r2 =>
      unfold pyL at e
      obtain ⟨p, e1, e⟩ := bind2 e
      cases z : pyL ds with
      | none => rw [z] at e; cases e
      | some qs =>
        rw [z] at e
        cases e
        exact .cons (pyD_dp d _ p e1 r1) (pyL_dp ds _ qs z r2)
end
theorem py0_dp {φ : List Addr} {H : Hp} {μ : Store} (hS : StR K φ H μ) {d : D} {v : V} {p : PyData} (e : py0 μ d = some p) (r : Rep K φ H d v) : Dp K H v p := by
  cases d with
  | loc n =>
    unfold py0 at e
    simp only at e
    split at e
    · rename_i xs em
      cases r with
      | loc h =>
        obtain ⟨vs, h2, h3⟩ := hS.addr h em
        cases z : pyL xs with
        | none => rw [z] at e; cases e
        | some ps =>
          rw [z] at e
          cases e
          exact .lst (.inl (.inl h2)) (pyL_dp xs vs ps z h3)
    · cases e
  | _ => exact pyD_dp _ _ _ e r
theorem pysM_dp {φ : List Addr} {H : Hp} {μ : Store} (hS : StR K φ H μ) : ∀ (ds : List D) (vs : List V) (ps : List PyData), pysM μ ds = some ps → Reps K φ H ds vs → DpAll K H vs ps
  | [], _, _, e, r => by cases e; cases r; exact .nil
  | d :: ds, _, ps, e, r => by
    cases r with
    | cons r1 r2 =>
      unfold pysM at e
      obtain ⟨p, e1, e⟩ := bind2 e
      cases z : pysM μ ds with
      | none => rw [z] at e; cases e
      | some qs =>
        rw [z] at e
        cases e
        exact .cons (py0_dp hS e1 r1) (pysM_dp hS ds _ qs z r2)
theorem py_dp {φ : List Addr} {H : Hp} {μ : Store} (hS : StR K φ H μ) {d : D} {v : V} {p : PyData} (e : py μ d = some p) (r : Rep K φ H d v) : Dp K H v p := by
  cases d with
  | tup xs =>
    cases r with
    | tup h q =>
      replace e : (pysM μ xs).map PyData.tuple = some p := e
      cases z : pysM μ xs with
      | none => rw [z] at e; cases e
      | some ps =>
        rw [z] at e
        cases e
        exact .tup h (pysM_dp hS xs _ ps z q)
  | non => exact py0_dp (d := .non) hS e r
  | bl b => exact py0_dp (d := .bl b) hS e r
  | int i => exact py0_dp (d := .int i) hS e r
  | str x => exact py0_dp (d := .str x) hS e r
  | loc n => exact py0_dp (d := .loc n) hS e r
  | rl xs => exact py0_dp (d := .rl xs) hS e r
  | ty n => exact py0_dp (d := .ty n) hS e r
  | kd a => exact py0_dp (d := .kd a) hS e r
def rEqM (K : PySem.W.Frag) (neg : Bool) : R2 := fun x y H Q => ∃ d e, Dp K H x d ∧ Dp K H y e ∧ d.canLay0 = true ∧ e.canLay0 = true ∧ min d.depth e.depth ≤ 64 ∧ Q (.bl (if neg then !PyData.eqv d e else PyData.eqv d e)) H
theorem op_eqM {X : Cx} (hu : X.A.units + 64 < cLine) : OpR X (compareOp .Eq) (rEqM X.K false) := by
  intro pins s σ H x y v u Q I rx ry h
  obtain ⟨d, e, hd, he, sd, se, hm, q⟩ := h
  obtain ⟨as, r1⟩ := Dp.reads I d x v hd rx
  obtain ⟨bs, r2⟩ := Dp.reads I e y u he ry
  exact SeqAt.compareEq_reads r1 r2 sd se (by omega) ⟨.bl _, H, I, rfl, q⟩
theorem op_neM {X : Cx} (hu : X.A.units + 64 < cLine) : OpR X (compareOp .NotEq) (rEqM X.K true) := by
  intro pins s σ H x y v u Q I rx ry h
  obtain ⟨d, e, hd, he, sd, se, hm, q⟩ := h
  obtain ⟨as, r1⟩ := Dp.reads I d x v hd rx
  obtain ⟨bs, r2⟩ := Dp.reads I e y u he ry
  exact SeqAt.compareNe_reads r1 r2 sd se (by omega) ⟨.bl _, H, I, rfl, q⟩
def dEqv (neg : Bool) (x y : D) (μ : Store) : Option Bool := match py μ x, py μ y with
  | some p, some q => if p.canLay0 = true ∧ q.canLay0 = true ∧ min p.depth q.depth ≤ 64 then some (if neg then !PyData.eqv p q else PyData.eqv p q) else none
  | _, _ => none
theorem dEqv_ok {neg : Bool} : CmD K (rEqM K neg) (dEqv neg) := by
  intro φ H μ dx dy x y c Q hS r1 r2 e k
  unfold dEqv at e
  split at e
  · rename_i p q e1 e2
    split at e
    · rename_i h
      cases e
      exact ⟨p, q, py_dp hS e1 r1, py_dp hS e2 r2, h.1, h.2.1, h.2.2, k⟩
    · cases e
  · cases e
/-- in: one sign in a text; in a tuple of data -/
def rInM (K : PySem.W.Frag) (neg : Bool) : R2 := fun x y H Q => ∃ d ds, Dp K H x d ∧ Dp K H y (.tuple ds) ∧ d.canLay0 = true ∧ PyData.canLayAll0 ds = true ∧ d.depth ≤ 64 ∧ Q (.bl (if neg then !ds.any fun z => PyData.eqv z d else ds.any fun z => PyData.eqv z d)) H
theorem op_inM {X : Cx} (hu : X.A.units + 65 < cLine) : OpR X (compareOp .In) (rInM X.K false) := by
  intro pins s σ H x y v u Q I rx ry h
  obtain ⟨d, ds, hd, he, sd, se, hm, q⟩ := h
  obtain ⟨as, r1⟩ := Dp.reads I d x v hd rx
  obtain ⟨bs, r2⟩ := Dp.reads I (.tuple ds) y u he ry
  exact SeqAt.in_tuple_reads r2 r1 se sd (by have := Nat.min_le_right (PyData.depthAll ds) d.depth; omega) ⟨.bl _, H, I, rfl, q⟩
theorem op_notInM {X : Cx} (hu : X.A.units + 65 < cLine) : OpR X (compareOp .NotIn) (rInM X.K true) := by
  intro pins s σ H x y v u Q I rx ry h
  obtain ⟨d, ds, hd, he, sd, se, hm, q⟩ := h
  obtain ⟨as, r1⟩ := Dp.reads I d x v hd rx
  obtain ⟨bs, r2⟩ := Dp.reads I (.tuple ds) y u he ry
  exact SeqAt.notIn_tuple_reads r2 r1 se sd (by have := Nat.min_le_right (PyData.depthAll ds) d.depth; omega) ⟨.bl _, H, I, rfl, q⟩
def dIn (neg : Bool) (x y : D) (_ : Store) : Option Bool := match y with
  | .str z => match x with
    | .str w => match w.cps.toList with
      | [c] => some (if neg then !decide (c ∈ z.cps.toList) else decide (c ∈ z.cps.toList))
      | _ => none
    | _ => none
  | .tup ys => match pyD x, pyL ys with
    | some p, some qs => if p.canLay0 = true ∧ PyData.canLayAll0 qs = true ∧ p.depth ≤ 64 then some (if neg then !qs.any fun z => PyData.eqv z p else qs.any fun z => PyData.eqv z p) else none
    | _, _ => none
  | _ => none
theorem dIn_ok (neg : Bool) : CmD K (fun x y H Q => (∃ (c : Nat) (z : Str), x = .str ⟨#[c]⟩ ∧ y = .str z ∧ Q (.bl (if neg then !decide (c ∈ z.cps.toList) else decide (c ∈ z.cps.toList))) H) ∨ rInM K neg x y H Q) (dIn neg) := by
  intro φ H μ dx dy x y c Q hS r1 r2 e k
  unfold dIn at e
  split at e
  · rename_i z
    split at e
    · rename_i w
      split at e
      · rename_i cc hw
        cases e; cases r1; cases r2
        have ew : w = ⟨#[cc]⟩ := TL.ext_tl (by show w.cps.toList = [cc]; exact hw)
        subst ew
        exact .inl ⟨cc, z, rfl, rfl, k⟩
      · cases e
    · cases e
  · rename_i ys
    split at e
    · rename_i p qs e1 e2
      split at e
      · rename_i h
        cases e
        cases r2 with
        | tup h2 q2 => exact .inr ⟨p, qs, pyD_dp _ _ _ e1 r1, .tup h2 (pyL_dp _ _ _ e2 q2), h.1, h.2.1, h.2.2, k⟩
      · cases e
    · cases e
  · cases e
/-- is None, is not None; is True -/
def dIsN (neg : Bool) (x y : D) (_ : Store) : Option Bool := match y with
  | .non => match x with
    | .non => some (!neg)
    | _ => some neg
  | .bl b => match x with
    | .bl a => some (if neg then !decide (a = b) else decide (a = b))
    | _ => none
  | _ => none
theorem rep_non {φ : List Addr} {H : Hp} {d : D} {v : V} (r : Rep K φ H d v) : v = .non ↔ d = .non := by
  cases r <;> simp
theorem dIsN_ok (neg : Bool) : CmD K (fun x y H Q => (y = .non ∧ Q (.bl (if neg then !decide (x = .non) else decide (x = .non))) H) ∨ ∃ a b : Bool, x = .bl a ∧ y = .bl b ∧ Q (.bl (if neg then !decide (a = b) else decide (a = b))) H) (dIsN neg) := by
  intro φ H μ dx dy x y c Q hS r1 r2 e k
  unfold dIsN at e
  split at e
  · cases r2
    refine .inl ⟨rfl, ?_⟩
    have h := rep_non r1
    split at e
    · cases e
      have hx : x = .non := h.mpr rfl
      subst hx
      cases neg <;> simpa using k
    · rename_i hne
      cases e
      have hx : ¬ x = .non := fun z => hne (h.mp z)
      rw [decide_eq_false hx]
      cases neg <;> simpa using k
  · split at e
    · cases e; cases r1; cases r2
      exact .inr ⟨_, _, rfl, rfl, k⟩
    · cases e
  · cases e
end
section
variable {X : Cx}
theorem OpR_le {f : Value → Value → Sem Value} {r r' : R2} (h : OpR X f r) (q : ∀ x y H Q, r' x y H Q → r x y H Q) : OpR X f r' := fun pins s σ H x y v u Q I rx ry w => h pins s σ H x y v u Q I rx ry (q _ _ _ _ w)
theorem opLe : OpR X (compareOp .LtE) (fun x y H Q => rI0 (fun i j => .bl (decide (i ≤ j))) x y H Q ∨ ∃ i j, x = .str i ∧ y = .str j ∧ Q (.bl (!decide (j.cps.toList < i.cps.toList))) H) := op_le.or op_le_str
theorem opAdd : OpR X (binaryOp .Add) (fun x y H Q => (rI0 (fun i j => .int (i + j)) x y H Q) ∨ (∃ i j, x = .str i ∧ y = .str j ∧ i.length + j.length ≤ sizeLine ∧ Q (.str (i ++ j)) H) ∨ rCatT X.K x y H Q ∨ rCat x y H Q) := op_add.or (op_add_str.or (op_catT.or op_cat))
theorem opIn (hu : X.A.units + 65 < cLine) : OpR X (compareOp .In) (fun x y H Q => (∃ (c : Nat) (z : Str), x = .str ⟨#[c]⟩ ∧ y = .str z ∧ Q (.bl (if false = true then !decide (c ∈ z.cps.toList) else decide (c ∈ z.cps.toList))) H) ∨ rInM X.K false x y H Q) := OpR_le (op_in_sign.or (op_inM hu)) fun _ _ _ _ h => h
theorem opNotIn (hu : X.A.units + 65 < cLine) : OpR X (compareOp .NotIn) (fun x y H Q => (∃ (c : Nat) (z : Str), x = .str ⟨#[c]⟩ ∧ y = .str z ∧ Q (.bl (if true = true then !decide (c ∈ z.cps.toList) else decide (c ∈ z.cps.toList))) H) ∨ rInM X.K true x y H Q) := OpR_le (op_notIn_sign.or (op_notInM hu)) fun _ _ _ _ h => h
theorem opIsN : OpR X (compareOp .Is) (fun x y H Q => (y = .non ∧ Q (.bl (if false = true then !decide (x = .non) else decide (x = .non))) H) ∨ ∃ a b : Bool, x = .bl a ∧ y = .bl b ∧ Q (.bl (if false = true then !decide (a = b) else decide (a = b))) H) := OpR_le (op_isN.or op_isBl) fun _ _ _ _ h => h
theorem opNotN : OpR X (compareOp .IsNot) (fun x y H Q => (y = .non ∧ Q (.bl (if true = true then !decide (x = .non) else decide (x = .non))) H) ∨ ∃ a b : Bool, x = .bl a ∧ y = .bl b ∧ Q (.bl (if true = true then !decide (a = b) else decide (a = b))) H) := OpR_le (op_notN.or op_notBl) fun _ _ _ _ h => h
end
end PDL
set_option Elab.async false
set_option linter.all false
set_option maxRecDepth 100000
/-! PD4: subscripts, built-ins, methods, dicts. -/
namespace PDL
open PySem PySem.Spec PyProof.Rows L2
section
variable {K : PySem.W.Frag}
/-! ### subscripts, slices -/
theorem atI_rep {φ : List Addr} {H : Hp} {ds : List D} {vs : List V} {i : Int} {d : D} (r : Reps K φ H ds vs) (e : atI ds i = some d) : ∃ v, atI vs i = some v ∧ Rep K φ H d v := by
  unfold atI at e ⊢
  rw [← r.length]
  cases q : ixN ds.length i with
  | none => rw [q] at e; cases e
  | some j =>
    rw [q] at e
    exact r.get e
def dIx : D → D → Store → Option (D × Store)
  | .tup xs, .int i, μ => (atI xs i).map fun d => (d, μ)
  | .rl xs, .int i, μ => (atI xs i).map fun d => (d, μ)
  | .loc n, .int i, μ => match μ[n]? with
    | some (.lst xs) => (atI xs i).map fun d => (d, μ)
    | _ => none
  | .str z, .int i, μ => if z.length ≤ sizeLine then (atI z.cps.toList i).map fun c => (.str ⟨#[c]⟩, μ) else none
  | _, _, _ => none
theorem map_some {α β : Type} {o : Option α} {f : α → β} {b : β} (h : o.map f = some b) : ∃ a, o = some a ∧ f a = b := by
  cases o with
  | none => cases h
  | some a => exact ⟨a, rfl, Option.some.inj h⟩
theorem dIx_ok : OpD K (rIx K) dIx := by
  intro φ H μ dx dy x y d μ' Q hS r1 r2 e k
  unfold dIx at e
  split at e
  · obtain ⟨d', e1, e⟩ := map_some e
    cases e; cases r2
    cases r1 with
    | tup h q =>
      obtain ⟨v, h1, h2⟩ := atI_rep q e1
      exact .inr (.inl ⟨_, _, _, v, rfl, rfl, h, h1, k v φ H (Bh.refl hS) h2⟩)
  · obtain ⟨d', e1, e⟩ := map_some e
    cases e; cases r2
    cases r1 with
    | rl h q =>
      obtain ⟨v, h1, h2⟩ := atI_rep q e1
      exact .inl ⟨_, _, _, v, rfl, rfl, h.sq, h1, k v φ H (Bh.refl hS) h2⟩
  · split at e
    · rename_i em
      obtain ⟨d', e1, e⟩ := map_some e
      cases e; cases r2
      cases r1 with
      | loc h =>
        obtain ⟨vs, g1, g2⟩ := hS.addr h em
        obtain ⟨v, h1, h2⟩ := atI_rep g2 e1
        exact .inl ⟨_, _, _, v, rfl, rfl, .inl (.inl g1), h1, k v φ H (Bh.refl hS) h2⟩
    · cases e
  · split at e
    · rename_i hz
      obtain ⟨c, e1, e⟩ := map_some e
      cases e; cases r1; cases r2
      exact .inr (.inr ⟨_, _, c, rfl, rfl, hz, e1, k _ φ H (Bh.refl hS) (.str _)⟩)
    · cases e
  · cases e
def cutD (xs : List D) (lo hi : Option Int) : List D := (xs.drop (HT.sIx xs.length 0 lo)).take (HT.sIx xs.length xs.length hi - HT.sIx xs.length 0 lo)
theorem cut_rep {φ : List Addr} {H : Hp} {ds : List D} {vs : List V} (r : Reps K φ H ds vs) (lo hi : Option Int) : Reps K φ H (cutD ds lo hi) (cutV vs lo hi) := by
  unfold cutD cutV
  rw [r.length]
  exact (r.drop _).take _
def dSl : D → Option Int → Option Int → Store → Option (D × Store)
  | .str z, lo, hi, μ => if z.length ≤ sizeLine then some (.str (cutS z lo hi), μ) else none
  | .loc n, lo, hi, μ => match μ[n]? with
    | some (.lst xs) => some (.loc μ.length, μ ++ [.lst (cutD xs lo hi)])
    | _ => none
  | .tup xs, lo, hi, μ => if ¬ (HT.sIx xs.length 0 lo = 0 ∧ HT.sIx xs.length xs.length hi = xs.length) then some (.tup (cutD xs lo hi), μ) else none
  | _, _, _, _ => none
def rSlA (K : PySem.W.Frag) : V → Option Int → Option Int → Hp → VK → Prop := fun x lo hi H Q => rSlS x lo hi H Q ∨ rSlL K x lo hi H Q ∨ rSlT K x lo hi H Q
theorem slA {X : Cx} : SlR X (rSlA X.K) := sl_str.or (sl_list.or sl_tup)
theorem dSl_ok (φ : List Addr) (H : Hp) (μ : Store) (dx : D) (x : V) (l h : Option Int) (d : D) (μ' : Store) (Q : VK) (hS : StR K φ H μ) (r : Rep K φ H dx x) (e : dSl dx l h μ = some (d, μ')) (k : ∀ v φ' H', Bh K φ H φ' H' μ' → Rep K φ' H' d v → Q v H') : rSlA K x l h H Q := by
  unfold dSl at e
  split at e
  · split at e
    · rename_i hz
      cases e; cases r
      exact .inl ⟨_, rfl, hz, k _ φ H (Bh.refl hS) (.str _)⟩
    · cases e
  · split at e
    · rename_i em
      cases e
      cases r with
      | loc hn =>
        obtain ⟨vs, g1, g2⟩ := hS.addr hn em
        refine .inr (.inl ⟨_, vs, rfl, .inl (.inl g1), fun p hp => ?_⟩)
        refine k _ (φ ++ [p]) _ ⟨Ext.snoc _ _, Kp.new hp, hS.push hp (cut_rep g2 l h)⟩ (.loc ?_)
        rw [← hS.len, List.getElem?_append_right (Nat.le_refl _), Nat.sub_self]
        rfl
    · cases e
  · split at e
    · rename_i hw
      cases e
      cases r with
      | tup g q =>
        rename_i vs0
        refine .inr (.inr ⟨_, _, rfl, g, by rw [← q.length]; exact hw, fun p hp => ?_⟩)
        have kp : Kp K H (upd H p (.tup (cutV vs0 l h))) := Kp.new hp
        exact k _ φ _ ⟨Ext.refl _, kp, hS.new_ hp⟩ (.tup (.inl (.inl upd_same)) (Reps.mono (Ext.refl _) kp _ _ (cut_rep q l h)))
    · cases e
  · cases e
/-! ### xs[i] = v -/
def dSet : D → D → D → Store → Option Store
  | .loc n, .int i, d, μ => match μ[n]? with
    | some (.lst xs) => (ixN xs.length i).map fun j => μ.set n (.lst (xs.set j d))
    | _ => none
  | _, _, _, _ => none
theorem dSet_ok (φ : List Addr) (H : Hp) (μ : Store) (d1 d2 d3 : D) (x y z : V) (μ' : Store) (Q : Hp → Prop) (hS : StR K φ H μ) (r1 : Rep K φ H d1 x) (r2 : Rep K φ H d2 y) (r3 : Rep K φ H d3 z) (e : dSet d1 d2 d3 μ = some μ') (k : ∀ H', Bh K φ H φ H' μ' → Q H') : rSetL x y z H Q := by
  unfold dSet at e
  split at e
  · split at e
    · rename_i em
      obtain ⟨j, e1, e⟩ := map_some e
      cases r2
      cases r1 with
      | loc hn =>
        obtain ⟨vs, g1, g2⟩ := hS.addr hn em
        refine ⟨_, vs, _, j, rfl, rfl, g1, by rw [← g2.length]; exact e1, k _ ?_⟩
        obtain ⟨w1, w2⟩ := hS.write hn (Reps.set r3 j g2)
        subst e
        exact ⟨Ext.refl _, w2, w1⟩
    · cases e
  · cases e

/-! ### built-ins -/
def dLen : List D → Store → Option (D × Store)
  | [.str z], μ => if z.length ≤ sizeLine then some (.int z.length, μ) else none
  | [.tup xs], μ => some (.int xs.length, μ)
  | [.rl xs], μ => some (.int xs.length, μ)
  | [.loc n], μ => match μ[n]? with
    | some (.lst xs) => some (.int xs.length, μ)
    | _ => none
  | _, _ => none
theorem reps1 {φ : List Addr} {H : Hp} {d : D} {vs : List V} (r : Reps K φ H [d] vs) : ∃ v, vs = [v] ∧ Rep K φ H d v := by
  cases r with
  | cons a b => cases b; exact ⟨_, rfl, a⟩
theorem reps2 {φ : List Addr} {H : Hp} {d e : D} {vs : List V} (r : Reps K φ H [d, e] vs) : ∃ v w, vs = [v, w] ∧ Rep K φ H d v ∧ Rep K φ H e w := by
  cases r with
  | cons a b =>
    obtain ⟨w, rfl, q⟩ := reps1 b
    exact ⟨_, w, rfl, a, q⟩
theorem dLen_ok : CaD K (fun xs H Q => ∃ x n, xs = [x] ∧ LenV K x H n ∧ Q (.int n) H) dLen := by
  intro φ H μ ds vs d μ' Q hS r e k
  unfold dLen at e
  split at e
  · split at e
    · rename_i hz
      cases e
      obtain ⟨v, rfl, q⟩ := reps1 r
      cases q
      exact ⟨_, _, rfl, ⟨hz, rfl⟩, k _ φ H (Bh.refl hS) (.int _)⟩
    · cases e
  · cases e
    obtain ⟨v, rfl, q⟩ := reps1 r
    cases q with
    | tup g p => exact ⟨_, _, rfl, .inr ⟨_, g, p.length⟩, k _ φ H (Bh.refl hS) (.int _)⟩
  · cases e
    obtain ⟨v, rfl, q⟩ := reps1 r
    cases q with
    | rl g p => exact ⟨_, _, rfl, .inl ⟨_, g.sq, p.length⟩, k _ φ H (Bh.refl hS) (.int _)⟩
  · split at e
    · rename_i em
      cases e
      obtain ⟨v, rfl, q⟩ := reps1 r
      cases q with
      | loc hn =>
        obtain ⟨ws, g1, g2⟩ := hS.addr hn em
        exact ⟨_, _, rfl, .inl ⟨_, .inl (.inl g1), g2.length⟩, k _ φ H (Bh.refl hS) (.int _)⟩
    · cases e
  · cases e
def dStr : List D → Store → Option (D × Store)
  | [.int i], μ => if i.natAbs.log2 < 1920 then some (.str (Str.ofString (toString i)), μ) else none
  | _, _ => none
theorem dStr_ok : CaD K (fun xs H Q => ∃ i, xs = [.int i] ∧ i.natAbs.log2 < 1920 ∧ Q (.str (toString i)) H) dStr := by
  intro φ H μ ds vs d μ' Q hS r e k
  unfold dStr at e
  split at e
  · split at e
    · rename_i hz
      cases e
      obtain ⟨v, rfl, q⟩ := reps1 r
      cases q
      exact ⟨_, rfl, hz, k _ φ H (Bh.refl hS) (.str _)⟩
    · cases e
  · cases e
def dInt : List D → Store → Option (D × Store)
  | [.int i], μ => some (.int i, μ)
  | [.str a], μ => if a.length ≤ 640 then (PySem.intText? a).map fun n => (.int n, μ) else none
  | _, _ => none
theorem dInt_ok : CaD K (fun xs H Q => ((∃ i, xs = [.int i] ∧ Q (.int i) H) ∨ ∃ k, xs = [.bl k] ∧ Q (.int (if k then 1 else 0)) H) ∨ ∃ a n, xs = [.str a] ∧ PySem.intText? a = some n ∧ a.length ≤ 640 ∧ Q (.int n) H) dInt := by
  intro φ H μ ds vs d μ' Q hS r e k
  unfold dInt at e
  split at e
  · cases e
    obtain ⟨v, rfl, q⟩ := reps1 r
    cases q
    exact .inl (.inl ⟨_, rfl, k _ φ H (Bh.refl hS) (.int _)⟩)
  · split at e
    · rename_i hz
      obtain ⟨n, e1, e⟩ := map_some e
      cases e
      obtain ⟨v, rfl, q⟩ := reps1 r
      cases q
      exact .inr ⟨_, n, rfl, e1, hz, k _ φ H (Bh.refl hS) (.int _)⟩
    · cases e
  · cases e
theorem callInt {X : Cx} : CallR X (.type "int") (fun xs H Q => ((∃ i, xs = [.int i] ∧ Q (.int i) H) ∨ ∃ k, xs = [.bl k] ∧ Q (.int (if k then 1 else 0)) H) ∨ ∃ a n, xs = [.str a] ∧ PySem.intText? a = some n ∧ a.length ≤ 640 ∧ Q (.int n) H) := call_int1.or call_int_str
def dAbs : List D → Store → Option (D × Store)
  | [.int i], μ => some (.int (if i < 0 then -i else i), μ)
  | _, _ => none
theorem dAbs_ok : CaD K (fun xs H Q => ∃ i, xs = [.int i] ∧ Q (.int (if i < 0 then -i else i)) H) dAbs := by
  intro φ H μ ds vs d μ' Q hS r e k
  unfold dAbs at e
  split at e
  · cases e
    obtain ⟨v, rfl, q⟩ := reps1 r
    cases q
    exact ⟨_, rfl, k _ φ H (Bh.refl hS) (.int _)⟩
  · cases e
def dMax : List D → Store → Option (D × Store)
  | [.int i, .int j], μ => some (.int (if j > i then j else i), μ)
  | _, _ => none
theorem dMax_ok : CaD K (fun xs H Q => ∃ i j, xs = [.int i, .int j] ∧ Q (.int (if j > i then j else i)) H) dMax := by
  intro φ H μ ds vs d μ' Q hS r e k
  unfold dMax at e
  split at e
  · cases e
    obtain ⟨v, w, rfl, q1, q2⟩ := reps2 r
    cases q1; cases q2
    exact ⟨_, _, rfl, k _ φ H (Bh.refl hS) (.int _)⟩
  · cases e
def dMin : List D → Store → Option (D × Store)
  | [.int i, .int j], μ => some (.int (if j < i then j else i), μ)
  | _, _ => none
theorem dMin_ok : CaD K (fun xs H Q => ∃ i j, xs = [.int i, .int j] ∧ Q (.int (if j < i then j else i)) H) dMin := by
  intro φ H μ ds vs d μ' Q hS r e k
  unfold dMin at e
  split at e
  · cases e
    obtain ⟨v, w, rfl, q1, q2⟩ := reps2 r
    cases q1; cases q2
    exact ⟨_, _, rfl, k _ φ H (Bh.refl hS) (.int _)⟩
  · cases e
def dDivmod : List D → Store → Option (D × Store)
  | [.int i, .int j], μ => if CDiv i j then some (.tup [.int (i / j), .int (i % j)], μ) else none
  | _, _ => none
theorem dDivmod_ok : CaD K (fun xs H Q => ∃ i j, xs = [.int i, .int j] ∧ CDiv i j ∧ ∀ p, H p = none → Q (.ref p) (upd H p (.tup [.int (i / j), .int (i % j)]))) dDivmod := by
  intro φ H μ ds vs d μ' Q hS r e k
  unfold dDivmod at e
  split at e
  · split at e
    · rename_i hc
      cases e
      obtain ⟨v, w, rfl, q1, q2⟩ := reps2 r
      cases q1; cases q2
      exact ⟨_, _, rfl, hc, fun p hp => k _ φ _ ⟨Ext.refl _, Kp.new hp, hS.new_ hp⟩ (.tup (.inl (.inl upd_same)) (.cons (.int _) (.cons (.int _) .nil)))⟩
    · cases e
  · cases e
def dOrd : List D → Store → Option (D × Store)
  | [.str x], μ => if x.length = 1 then some (.int (x.cps.getD 0 0 : Nat), μ) else none
  | _, _ => none
theorem dOrd_ok : CaD K (fun xs H Q => ∃ x, xs = [.str x] ∧ x.length = 1 ∧ Q (.int (x.cps.getD 0 0 : Nat)) H) dOrd := by
  intro φ H μ ds vs d μ' Q hS r e k
  unfold dOrd at e
  split at e
  · split at e
    · rename_i hc
      cases e
      obtain ⟨v, rfl, q⟩ := reps1 r
      cases q
      exact ⟨_, rfl, hc, k _ φ H (Bh.refl hS) (.int _)⟩
    · cases e
  · cases e
def blsOf : List D → Option (List Bool)
  | [] => some []
  | .bl b :: r => (blsOf r).map fun q => b :: q
  | _ :: _ => none
theorem bls_rep {φ : List Addr} {H : Hp} : ∀ {ds : List D} {vs : List V} {bs : List Bool}, Reps K φ H ds vs → blsOf ds = some bs → vs = bs.map V.bl
  | [], _, _, .nil, e => by cases e; rfl
  | .bl b :: ds, _, _, .cons (.bl _) q, e => by
    obtain ⟨bs, e1, rfl⟩ := map_some (show (blsOf ds).map (fun q => b :: q) = some _ from e)
    rw [bls_rep q e1]
    rfl
  | .non :: _, _, _, _, e => by cases e
  | .int _ :: _, _, _, _, e => by cases e
  | .str _ :: _, _, _, _, e => by cases e
  | .tup _ :: _, _, _, _, e => by cases e
  | .loc _ :: _, _, _, _, e => by cases e
  | .rl _ :: _, _, _, _, e => by cases e
  | .ty _ :: _, _, _, _, e => by cases e
  | .kd _ :: _, _, _, _, e => by cases e
def dAll : List D → Store → Option (D × Store)
  | [.loc n], μ => match μ[n]? with
    | some (.lst xs) => (blsOf xs).map fun bs => (.bl (bs.all id), μ)
    | _ => none
  | _, _ => none
theorem dAll_ok : CaD K (rAll K) dAll := by
  intro φ H μ ds vs d μ' Q hS r e k
  unfold dAll at e
  split at e
  · split at e
    · rename_i em
      obtain ⟨bs, e1, e⟩ := map_some e
      cases e
      obtain ⟨v, rfl, q⟩ := reps1 r
      cases q with
      | loc hn =>
        obtain ⟨ws, g1, g2⟩ := hS.addr hn em
        have hw := bls_rep g2 e1
        subst hw
        exact ⟨_, bs, rfl, .inl (.inl g1), k _ φ H (Bh.refl hS) (.bl _)⟩
    · cases e
  · cases e
def dTuple : List D → Store → Option (D × Store)
  | [.loc n], μ => match μ[n]? with
    | some (.lst xs) => some (.tup xs, μ)
    | _ => none
  | [.tup xs], μ => some (.tup xs, μ)
  | _, _ => none
theorem dTuple_ok : CaD K (fun xs H Q => ∃ p ys, xs = [.ref p] ∧ ((SqL K H p ys ∧ ∀ l, H l = none → Q (.ref l) (upd H l (.tup ys))) ∨ (SqT K H p ys ∧ Q (.ref p) H))) dTuple := by
  intro φ H μ ds vs d μ' Q hS r e k
  unfold dTuple at e
  split at e
  · split at e
    · rename_i em
      cases e
      obtain ⟨v, rfl, q⟩ := reps1 r
      cases q with
      | loc hn =>
        obtain ⟨ws, g1, g2⟩ := hS.addr hn em
        refine ⟨_, ws, rfl, .inl ⟨.inl (.inl g1), fun l hl => ?_⟩⟩
        have kp : Kp K H (upd H l (.tup ws)) := Kp.new hl
        exact k _ φ _ ⟨Ext.refl _, kp, hS.new_ hl⟩ (.tup (.inl (.inl upd_same)) (Reps.mono (Ext.refl _) kp _ _ g2))
    · cases e
  · cases e
    obtain ⟨v, rfl, q⟩ := reps1 r
    cases q with
    | tup g p => exact ⟨_, _, rfl, .inr ⟨g, k _ φ H (Bh.refl hS) (.tup g p)⟩⟩
  · cases e
def dList : List D → Store → Option (D × Store)
  | [.loc n], μ => match μ[n]? with
    | some (.lst xs) => some (.loc μ.length, μ ++ [.lst xs])
    | _ => none
  | [.tup xs], μ => some (.loc μ.length, μ ++ [.lst xs])
  | _, _ => none
theorem dList_ok : CaD K (fun xs H Q => ∃ p ys, xs = [.ref p] ∧ (SqL K H p ys ∨ SqT K H p ys) ∧ ∀ l, H l = none → Q (.ref l) (upd H l (.lst ys))) dList := by
  intro φ H μ ds vs d μ' Q hS r e k
  have fin : ∀ {xs : List D} {ws : List V} {l : Addr}, H l = none → Reps K φ H xs ws → μ' = μ ++ [.lst xs] → d = .loc μ.length → Q (.ref l) (upd H l (.lst ws)) := fun {xs ws l} hl g2 e1 e2 => by
    subst e1 e2
    refine k _ (φ ++ [l]) _ ⟨Ext.snoc _ _, Kp.new hl, hS.push hl g2⟩ (.loc ?_)
    rw [← hS.len, List.getElem?_append_right (Nat.le_refl _), Nat.sub_self]
    rfl
  unfold dList at e
  split at e
  · split at e
    · rename_i em
      cases e
      obtain ⟨v, rfl, q⟩ := reps1 r
      cases q with
      | loc hn =>
        obtain ⟨ws, g1, g2⟩ := hS.addr hn em
        exact ⟨_, ws, rfl, .inl (.inl (.inl g1)), fun l hl => fin hl g2 rfl rfl⟩
    · cases e
  · cases e
    obtain ⟨v, rfl, q⟩ := reps1 r
    cases q with
    | tup g p => exact ⟨_, _, rfl, .inr g, fun l hl => fin hl p rfl rfl⟩
  · cases e
/-! ### isinstance -/
def tyD (μ : Store) : D → Option String
  | .non => some "NoneType"
  | .bl _ => some "bool"
  | .int _ => some "int"
  | .str _ => some "str"
  | .tup _ => some "tuple"
  | .rl _ => some "list"
  | .loc n => match μ[n]? with
    | some (.lst _) => some "list"
    | some (.dk _) => some "dict"
    | none => none
  | _ => none
theorem tyD_ok {φ : List Addr} {H : Hp} {μ : Store} {d : D} {v : V} {t : String} (hS : StR K φ H μ) (r : Rep K φ H d v) (e : tyD μ d = some t) : TyX K H v (.type t) := by
  cases d with
  | non => cases e; cases r; exact .base .non
  | bl b => cases e; cases r; exact .base (.bl b)
  | int i => cases e; cases r; exact .base (.int i)
  | str x => cases e; cases r; exact .base (.str x)
  | tup xs =>
    cases e
    cases r with
    | tup h q =>
      rcases h with (h | ⟨o, h⟩) | ⟨o, its, n, hk, hc, _⟩
      · exact .base (.tup h)
      · exact .fTuple h
      · exact .kTuple hk hc
  | rl xs =>
    cases e
    cases r with
    | rl h q =>
      rcases h with ⟨o, h⟩ | ⟨o, its, n, hk, hc, _⟩
      · exact .base (.frz h)
      · exact .kList hk hc
  | loc n =>
    unfold tyD at e
    simp only at e
    split at e
    · rename_i em
      cases e
      cases r with
      | loc hn =>
        obtain ⟨ws, g1, _⟩ := hS.addr hn em
        exact .base (.lst g1)
    · rename_i em
      cases e
      cases r with
      | loc hn =>
        obtain ⟨ws, g1, _⟩ := hS.addrK hn em
        exact .base (.dK g1)
    · cases e
  | ty _ => cases e
  | kd _ => cases e
def isiB (a b : String) : Bool := decide (a = b) || (decide (a = "bool") && decide (b = "int"))
def isiTys : List String := ["int", "str", "bool", "tuple", "list", "dict"]
theorem isi_kit {a b : String} (ha : a ∈ ["NoneType", "bool", "int", "str", "tuple", "list", "dict"]) (hb : b ∈ isiTys) : PySem.W.kitOne K (.type a) (.type b) = some (isiB a b) := by
  have h : ∀ a ∈ ["NoneType", "bool", "int", "str", "tuple", "list", "dict"], ∀ b ∈ isiTys, kitB a b = some (isiB a b) := by decide +kernel
  exact kit_ty (h a ha b hb)
theorem tyD_mem {μ : Store} {d : D} {t : String} (e : tyD μ d = some t) : t ∈ ["NoneType", "bool", "int", "str", "tuple", "list", "dict"] := by
  unfold tyD at e
  split at e
  all_goals first
    | (cases e; decide)
    | (split at e <;> first | (cases e; decide) | cases e)
    | cases e
def dIsi : List D → Store → Option (D × Store)
  | [x, .ty n], μ => if n ∈ isiTys then (tyD μ x).map fun t => (.bl (isiB t n), μ) else none
  | _, _ => none
theorem dIsi_ok : CaD K (rIsi K) dIsi := by
  intro φ H μ ds vs d μ' Q hS r e k
  unfold dIsi at e
  split at e
  · split at e
    · rename_i hn
      obtain ⟨t, e1, e⟩ := map_some e
      cases e
      obtain ⟨v, w, rfl, q1, q2⟩ := reps2 r
      cases q2
      exact ⟨_, _, _, _, _, rfl, .ty _, tyD_ok hS q1 e1, isi_kit (tyD_mem e1) hn, k _ φ H (Bh.refl hS) (.bl _)⟩
    · cases e
  · cases e

/-! ### methods of lists and texts -/
def dAppend : D → List D → Store → Option (D × Store)
  | .loc n, [y], μ => match μ[n]? with
    | some (.lst xs) => if xs.length < sizeLine then some (.non, μ.set n (.lst (xs ++ [y]))) else none
    | _ => none
  | _, _, _ => none
theorem dAppend_ok : MeD K rAppend dAppend := by
  intro φ H μ dx ds x vs d μ' Q hS r rs e k
  unfold dAppend at e
  split at e
  · split at e
    · rename_i em
      split at e
      · rename_i hl
        cases e
        obtain ⟨v, rfl, q⟩ := reps1 rs
        cases r with
        | loc hn =>
          obtain ⟨ws, g1, g2⟩ := hS.addr hn em
          obtain ⟨w1, w2⟩ := hS.write hn (g2.append (.cons q .nil))
          exact ⟨_, ws, v, rfl, rfl, g1, by rw [← g2.length]; exact hl, k _ φ _ ⟨Ext.refl _, w2, w1⟩ .non⟩
      · cases e
    · cases e
  · cases e
theorem list_extend_tup (l : Addr) (items : Array Value) (n : Nat) (b : Addr) (items2 : Array Value) (n2 : Nat) (dd : Option Addr) (sl : Array (Option Value)) (hs0 : ¬(!items.isEmpty && Builtin.List.listTooLong (items.size + items2.size)) = true) (hs1 : items.size ≤ sizeLine) (hs2 : items.size + items2.size ≤ sizeLine + 1) :
    Meets (Builtin.«list.extend» ⟨[.ref l, .ref b], []⟩) (fun _ R s => s.heap.get? l = some { cls := .type "list", dict := none, data := .seq items n, slots := #[] } ∧ s.heap.get? b = some { cls := .type "tuple", dict := dd, data := .seq items2 n2, slots := sl } ∧ R (.ok (.ret Value.none)) { s with heap := s.heap.update l (Obj.mapSeq fun x => x ++ items2), toks := s.toks }) :=
  .of_wp fun prog w A R s h => by
    obtain ⟨hp, g, d, tk, os⟩ := s; obtain ⟨hl, hb, h⟩ := h; have f1 := AutoSeq1.idx_int; have f2 := AutoSeq1.sub_tuple_tuple; have f3 := AutoSeq1.sub_list_list; have f4 := AutoSeq1.sub_tuple_list; have f5 := AutoSeq1.sub_list_tuple;
    have hz' : (items ++ items2).size ≤ sizeLine + 1 := by rw [Array.size_append]; exact hs2
    wp_walk using (wpAny_updateSeq hl rfl (hz := hs1) (_hz' := hz')), AutoSeq1.wpAny_loadPart' hl, AutoSeq1.wpAny_loadPart' hb; exact ⟨_, rfl, h⟩
def rExtendA (K : PySem.W.Frag) : V → List V → Hp → VK → Prop := fun x vs H Q => rExtend x vs H Q ∨ ∃ l b xs zs, x = .ref l ∧ vs = [.ref b] ∧ H l = some (.lst xs) ∧ SqT K H b zs ∧ xs.length + zs.length ≤ sizeLine ∧ Q .non (upd H l (.lst (xs ++ zs)))
theorem mt_extendA {X : Cx} : MtR X "list.extend" (rExtendA X.K) := by
  intro pins s σ H x vs v us Q I rx rv h
  rcases h with h | ⟨l, b, xs, zs, rfl, rfl, hH, hB, hz, q⟩
  · exact mt_extend pins s σ H x vs v us Q I rx rv h
  · cases rx
    obtain ⟨u, rfl, ru⟩ := Vals.one rv
    cases ru
    obtain ⟨z, its, n, r, hl, e⟩ := I.lstM hH
    obtain ⟨its2, r2, ⟨o2, e2, c2, n2, d2⟩, hl2⟩ := I.tuple hB
    obtain ⟨oc, od, odt, osl⟩ := o2
    simp only at c2 d2
    subst c2 d2
    have l1 := Vals.length r
    have l2 := Vals.length r2
    have hsz : its.toArray.size + its2.toArray.size ≤ sizeLine := by rw [List.size_toArray, List.size_toArray]; omega
    have hlong : ¬ (!its.toArray.isEmpty && Builtin.List.listTooLong (its.toArray.size + its2.toArray.size)) = true := by
      rw [notLongL hsz, Bool.and_false]
      exact Bool.false_ne_true
    refine call_meets F.slot_list_extend ⟨_, e, rfl⟩ F.entry_list_extend (F.args_list_extend_2 _ _)
      (list_extend_tup l its.toArray n b its2.toArray n2 od osl hlong (by rw [List.size_toArray]; omega) (by omega)) ⟨e, e2, ?_⟩
    refine ⟨.non, _, I.lset (its' := its ++ its2) hH e (by simp) (r.append r2) ?_, rfl, q⟩
    rw [List.length_append]
    omega
def dExtend : D → List D → Store → Option (D × Store)
  | .loc n, [.loc m], μ => match μ[n]?, μ[m]? with
    | some (.lst xs), some (.lst ys) => if xs.length + ys.length ≤ sizeLine then some (.non, μ.set n (.lst (xs ++ ys))) else none
    | _, _ => none
  | .loc n, [.tup ys], μ => match μ[n]? with
    | some (.lst xs) => if xs.length + ys.length ≤ sizeLine then some (.non, μ.set n (.lst (xs ++ ys))) else none
    | _ => none
  | _, _, _ => none
theorem dExtend_ok : MeD K (rExtendA K) dExtend := by
  intro φ H μ dx ds x vs d μ' Q hS r rs e k
  unfold dExtend at e
  split at e
  · split at e
    · rename_i em em2
      split at e
      · rename_i hl
        cases e
        obtain ⟨v, rfl, q⟩ := reps1 rs
        cases r with
        | loc hn =>
          cases q with
          | loc hm =>
            obtain ⟨ws, g1, g2⟩ := hS.addr hn em
            obtain ⟨zs, f1, f2⟩ := hS.addr hm em2
            obtain ⟨w1, w2⟩ := hS.write hn (g2.append f2)
            exact .inl ⟨_, _, ws, zs, rfl, rfl, g1, f1, by rw [← g2.length, ← f2.length]; exact hl, k _ φ _ ⟨Ext.refl _, w2, w1⟩ .non⟩
      · cases e
    · cases e
  · split at e
    · rename_i em
      split at e
      · rename_i hl
        cases e
        obtain ⟨v, rfl, q⟩ := reps1 rs
        cases r with
        | loc hn =>
          cases q with
          | tup f1 f2 =>
            obtain ⟨ws, g1, g2⟩ := hS.addr hn em
            obtain ⟨w1, w2⟩ := hS.write hn (g2.append f2)
            exact .inr ⟨_, _, ws, _, rfl, rfl, g1, f1, by rw [← g2.length, ← f2.length]; exact hl, k _ φ _ ⟨Ext.refl _, w2, w1⟩ .non⟩
      · cases e
    · cases e
  · cases e
def dPop : D → List D → Store → Option (D × Store)
  | .loc n, [], μ => match μ[n]? with
    | some (.lst xs) => (xs[xs.length - 1]?).map fun y => (y, μ.set n (.lst xs.dropLast))
    | _ => none
  | _, _, _ => none
theorem dPop_ok : MeD K rPop dPop := by
  intro φ H μ dx ds x vs d μ' Q hS r rs e k
  unfold dPop at e
  split at e
  · split at e
    · rename_i em
      obtain ⟨y, e1, e⟩ := map_some e
      cases e
      cases rs
      cases r with
      | loc hn =>
        obtain ⟨ws, g1, g2⟩ := hS.addr hn em
        obtain ⟨v, h1, h2⟩ := g2.get e1
        obtain ⟨w1, w2⟩ := hS.write hn g2.dropLast
        exact ⟨_, ws, v, rfl, rfl, g1, by rw [← g2.length]; exact h1, k _ φ _ ⟨Ext.refl _, w2, w1⟩ (h2.mono (Ext.refl _) w2)⟩
    · cases e
  · cases e
def strsOf : List D → Option (List Str)
  | [] => some []
  | .str b :: r => (strsOf r).map fun q => b :: q
  | _ :: _ => none
theorem strs_rep {φ : List Addr} {H : Hp} : ∀ {ds : List D} {vs : List V} {bs : List Str}, Reps K φ H ds vs → strsOf ds = some bs → vs = bs.map V.str
  | [], _, _, .nil, e => by cases e; rfl
  | .str b :: ds, _, _, .cons (.str _) q, e => by
    obtain ⟨bs, e1, rfl⟩ := map_some (show (strsOf ds).map (fun q => b :: q) = some _ from e)
    rw [strs_rep q e1]
    rfl
  | .non :: _, _, _, _, e => by cases e
  | .int _ :: _, _, _, _, e => by cases e
  | .bl _ :: _, _, _, _, e => by cases e
  | .tup _ :: _, _, _, _, e => by cases e
  | .loc _ :: _, _, _, _, e => by cases e
  | .rl _ :: _, _, _, _, e => by cases e
  | .ty _ :: _, _, _, _, e => by cases e
  | .kd _ :: _, _, _, _, e => by cases e
def dJoin : D → List D → Store → Option (D × Store)
  | .str a, [.loc n], μ => match μ[n]? with
    | some (.lst xs) => (strsOf xs).bind fun ys => if (ys.map (·.length)).sum + ys.length * a.length ≤ 16777216 then some (.str (Txt.join a ys), μ) else none
    | _ => none
  | _, _, _ => none
theorem dJoin_ok : MeD K (fun x xs H Q => ∃ a p, ∃ ys : List Str, x = .str a ∧ xs = [.ref p] ∧ (SqL K H p (ys.map V.str) ∨ SqT K H p (ys.map V.str)) ∧ (ys.map (·.length)).sum + ys.length * a.length ≤ 16777216 ∧ Q (.str (Txt.join a ys)) H) dJoin := by
  intro φ H μ dx ds x vs d μ' Q hS r rs e k
  unfold dJoin at e
  split at e
  · split at e
    · rename_i em
      obtain ⟨ys, e1, e⟩ := bind2 e
      split at e
      · rename_i hl
        cases e
        cases r
        obtain ⟨v, rfl, q⟩ := reps1 rs
        cases q with
        | loc hn =>
          obtain ⟨ws, g1, g2⟩ := hS.addr hn em
          have hw := strs_rep g2 e1
          subst hw
          exact ⟨_, _, ys, rfl, rfl, .inl (.inl (.inl g1)), hl, k _ φ H (Bh.refl hS) (.str _)⟩
      · cases e
    · cases e
  · cases e
def dFind : D → List D → Store → Option (D × Store)
  | .str a, [.str b, .int i], μ => some (.int (Txt.find3 a b i), μ)
  | _, _, _ => none
theorem dFind_ok : MeD K (fun x xs H Q => ∃ (a b : Str) (i : Int), x = .str a ∧ xs = [.str b, .int i] ∧ Q (.int (Txt.find3 a b i)) H) dFind := by
  intro φ H μ dx ds x vs d μ' Q hS r rs e k
  unfold dFind at e
  split at e
  · cases e
    cases r
    obtain ⟨v, w, rfl, q1, q2⟩ := reps2 rs
    cases q1; cases q2
    exact ⟨_, _, _, rfl, rfl, k _ φ H (Bh.refl hS) (.int _)⟩
  · cases e
def dSplit : D → List D → Store → Option (D × Store)
  | .str a, [.str b], μ => if (b.length == 0) = false ∧ a.length + 2 ≤ sizeLine then some (.loc μ.length, μ ++ [.lst ((Txt.split a b).map .str)]) else none
  | _, _, _ => none
theorem reps_strs {φ : List Addr} {H : Hp} : ∀ ys : List Str, Reps K φ H (ys.map D.str) (ys.map V.str)
  | [] => .nil
  | y :: r => .cons (.str y) (reps_strs r)
theorem dSplit_ok : MeD K (fun x xs H Q => ∃ a b, x = .str a ∧ xs = [.str b] ∧ (b.length == 0) = false ∧ a.length + 2 ≤ sizeLine ∧ rNewStrs (Txt.split a b) H Q) dSplit := by
  intro φ H μ dx ds x vs d μ' Q hS r rs e k
  unfold dSplit at e
  split at e
  · split at e
    · rename_i hl
      cases e
      cases r
      obtain ⟨v, rfl, q⟩ := reps1 rs
      cases q
      refine ⟨_, _, rfl, rfl, hl.1, hl.2, fun p hp => ?_⟩
      refine k _ (φ ++ [p]) _ ⟨Ext.snoc _ _, Kp.new hp, hS.push hp (reps_strs _)⟩ (.loc ?_)
      rw [← hS.len, List.getElem?_append_right (Nat.le_refl _), Nat.sub_self]
      rfl
    · cases e
  · cases e
end

section
variable {X : Cx} {pos : Pos}
/-- isinstance(x, (A, B)) -/
def evIsi2 (n m : String) (a : Ev) : Ev := fun ρ μ => (a ρ μ).bind fun p => if n ∈ isiTys ∧ m ∈ isiTys then (tyD p.2 p.1).map fun t => (.bl (isiB t n || isiB t m), p.2) else none
theorem pd_isi2 {e a b : Expr} {ev : Ev} {n m : String} {p p2 : Pos} {k : Nat} (he : PD X e ev) (ha : PE X a (tC (.ty n))) (hb : PE X b (tC (.ty m))) (hg : Gl X "isinstance") (hm : X.mg "isinstance" = none) (hv : bootBuiltins "isinstance" = some (.builtin "isinstance"))
    (s1 : starEach [e, .Tuple [a, b] k p2] X.env = (false, eval e X.env) :: starEach [.Tuple [a, b] k p2] X.env := by rfl) (s2 : starEach [.Tuple [a, b] k p2] X.env = (false, eval (.Tuple [a, b] k p2) X.env) :: starEach [] X.env := by rfl)
    (s3 : starEach [a, b] X.env = (false, eval a X.env) :: starEach [b] X.env := by rfl) (s4 : starEach [b] X.env = (false, eval b X.env) :: starEach [] X.env := by rfl) (hpl : (backTo pos (starEach [.Tuple [a, b] k p2] X.env)).any (·.1) = false := by rfl) :
    PD X (.Call (.Name "isinstance" p) [e, .Tuple [a, b] k p2] [] pos) (evIsi2 n m ev) := by
  refine (pe_callB call_isiT hg hm hv (pa_cons he (pa_cons (pe_tup (pa_cons ha (pa_cons hb pa_nil s4) s3)) pa_nil s2) s1) (he := s1) (hpl := hpl)).le fun σ H Q q => ?_
  obtain ⟨ρ, μ, φ, d, μ', hE, hS, e, k⟩ := q
  obtain ⟨⟨d1, μ1⟩, e1, e⟩ := bind2 e
  simp only at e
  split at e
  · rename_i hnm
    obtain ⟨t, e2, e⟩ := map_some e
    cases e
    refine ⟨ρ, μ, φ, d1, _, hE, hS, e1, fun x φ1 H1 b1 r1 => ?_⟩
    refine ⟨by show 2 ≤ sizeLine; decide, fun tp htp => ?_⟩
    have kp : Kp X.K H1 (upd H1 tp (.tup [.ty n, .ty m])) := Kp.new htp
    have s' := b1.st.new_ (o := .tup [.ty n, .ty m]) htp
    refine ⟨x, tp, [.ty n, .ty m], .type t, [.type n, .type m], isiB t n || isiB t m, rfl, upd_same, .cons (.ty n) (.cons (.ty m) .nil), tyD_ok s' (r1.mono (Ext.refl _) kp) e2, ?_, k _ φ1 _ ⟨b1.ext, b1.kp.trans kp, s'⟩ (.bl _)⟩
    refine kitAny_cons (isi_kit (tyD_mem e2) hnm.1) (fun h => ?_) fun h => by rw [h]; rfl
    rw [h, Bool.false_or]
    exact kitAny_cons (isi_kit (tyD_mem e2) hnm.2) (fun h => by rw [h]; exact kitAny_nil) fun h => h
  · cases e
/-- f(k = e) -/
def KB1 (K : PySem.W.Frag) (fd : FuncData) (n : Str) : Prop := ∀ (s : Shared) (w : Value), K.In s.heap → BindsTo s fd ⟨[], [(n, w)]⟩ [(n, w)]
theorem pd_callK1 {k : Nat} {f : Addr} {fd : FuncData} {x n : Str} {p kpos : Pos} {e : Expr} {ev : Ev} {m : List D → Store → Option (D × Store)} (F : FnOk X.prog X.w X.K X.mg X.base CX0 k f fd [n] (spD X.K 1 m)) (hr : Room k X.A) (hg : Gl X x) (hm : X.mg x = some (.ref f)) (hk : PySem.W.keepIn X.K (.ref f) = true)
    (hb : KB1 X.K fd n) (he : PD X e ev) (hall : (backToKw pos (keywordEach [⟨some n, e, kpos⟩] X.env)).all (·.1.isSome) = true := by rfl) (hks : (backToKw pos (keywordEach [⟨some n, e, kpos⟩] X.env)).filterMap (·.1) = [n] := by rfl)
    (hdb : (x == ("__debug__" : Str)) = false := by decide) (hpl : ((backTo pos (starEach [] X.env)).any (·.1) || (backToKw pos (keywordEach [⟨some n, e, kpos⟩] X.env)).any (·.1.isNone)) = false := by rfl) :
    PD X (.Call (.Name x p) [] [⟨some n, e, kpos⟩] pos) (evCall m (evCons ev evNil)) := by
  refine ⟨fun pins s σ H Q I h => ?_⟩
  refine wpAny_Call_Name_kw (ld_glob I hg hm ?_ hdb)
  refine PySem.W.callWith_KW0 (h₀ := X.base) I.ok.mod.kin hk hall ?_ hpl
  have q : tCons (tE X.K ev) tNil σ H fun vs H1 => ∃ v, vs = [v] ∧ spD X.K 1 m [v] H1 Q E0 := by
    obtain ⟨ρ, μ, φ, d, μ', hE, hS, e, k⟩ := h
    obtain ⟨⟨ds, μ1⟩, e1, e⟩ := bind2 e
    obtain ⟨⟨d1, μ2⟩, e2, e1⟩ := bind2 e1
    cases e1
    refine ⟨ρ, μ, φ, d1, _, hE, hS, e2, fun x φ1 H1 b1 r1 => ⟨x, rfl, φ1, [d1], _, d, μ', rfl, .cons r1 .nil, b1.st, e, fun v φ2 H2 b2 r2 => k v φ2 H2 (b1.trans b2) r2⟩⟩
  refine thn ((pk_cons he pk_nil).run pos pins s σ H _ I q) fun ws s2 ⟨zs, H2, I2, rz, v, ez, q2⟩ => ⟨I2.kIn, ?_⟩
  subst ez
  rw [hks]
  obtain ⟨w, rfl, rw'⟩ := vals1 rz
  refine wpAny_call (codeAny_mono (F.run X.A X.stack s2 H2 ⟨[], [(n, w)]⟩ [w] [v] Q E0 hr I2.env0 (hb s2 w I2.kIn) (.cons rw' .nil) q2) fun r s' hq => ?_)
  cases r with
  | error e => exact (pass0 pins σ H2 s2 e s' I2 hq)
  | ok fl =>
    cases fl with
    | ret u => exact I2.after hq
    | next => exact False.elim hq
    | brk => exact False.elim hq
    | cont => exact False.elim hq
/-- x.replace(A, B), A and B names of the module that stand for unlike texts -/
def evRepl (y z : Str) (a : Ev) : Ev := fun ρ μ => (a ρ μ).bind fun p => match p.1 with
  | .str x => if x.length + (x.length + 1) * z.length ≤ 16777216 then some (.str (Txt.replace x y z), p.2) else none
  | _ => none
theorem pd_repl {o : Expr} {ev : Ev} {A B : Str} {y z : Str} {t u : Tok} {pA pB apos : Pos} (ho : PD X o ev) (hA : Gl X A) (hB : Gl X B) (mA : X.mg A = some (.str y t)) (mB : X.mg B = some (.str z u)) (ht : t ≠ 0) (hu : u ≠ 0) (htu : t ≠ u) (hyz : (y == z) = false)
    (hst : starEach [.Name A pA, .Name B pB] X.env = [(false, eval (.Name A pA) X.env), (false, eval (.Name B pB) X.env)] := by rfl)
    (hbase : attributeBase o "replace" X.env (eval o X.env) = eval o X.env := by rfl) (hline : (apos.endLine == pos.line) = true := by rfl) (dA : (A == ("__debug__" : Str)) = false := by decide) (dB : (B == ("__debug__" : Str)) = false := by decide) :
    PD X (.Call (.Attribute o "replace" apos) [.Name A pA, .Name B pB] [] pos) (evRepl y z ev) := by
  refine ⟨fun pins s σ H Q I h => ?_⟩
  have q : tE X.K ev σ H fun v H1 => ∃ x, v = .str x ∧ x.length + (x.length + 1) * z.length ≤ 16777216 ∧ Q (.str (Txt.replace x y z)) H1 := by
    obtain ⟨ρ, μ, φ, d, μ', hE, hS, e, k⟩ := h
    obtain ⟨⟨d1, μ1⟩, e1, e⟩ := bind2 e
    refine ⟨ρ, μ, φ, d1, μ1, hE, hS, e1, fun x φ1 H1 b1 r1 => ?_⟩
    cases d1 with
    | str w =>
      simp only at e
      split at e
      · rename_i hl
        cases e
        cases r1
        exact ⟨w, rfl, hl, k _ φ1 H1 b1 (.str _)⟩
      · cases e
    | _ => cases e
  refine PySem.Call_method2 hbase hst hline (thn (ho.run pins s σ H _ I q) fun v s1 ⟨v', H1, I1, r1, x, e1, hb, q1⟩ => ?_)
  subst e1
  obtain ⟨tx, e2⟩ := r1
  subst e2
  refine ⟨"str", _, PySem.F.plainAttrs_str, PySem.F.slot_str_replace, PySem.F.type_str_replace, typeIs_str _ _ _, (fun _ e => nomatch e), Calls.callWith_builtin rfl (Calls.evalArgs_plain (Calls.spliced_cons ?_))⟩
  refine ld_glob I1 hA mA (Calls.spliced_cons (ld_glob I1 hB mB (Calls.spliced_nil ?_) dB)) dA
  exact PySem.SC.replace ht hu htu hyz hb fun t' k => ⟨.str (Txt.replace x y z), H1, I1.tok k, ⟨t', rfl⟩, q1⟩
end
end PDL
set_option Elab.async false
set_option linter.all false
set_option maxRecDepth 100000
/-! PD5: dicts. -/
namespace PDL
open PySem PySem.Spec PyProof.Rows L2

/-! ### a dict of the written part -/
structure KTab (K : PySem.W.Frag) (w : World) (a : Addr) (tab : List (Str × D)) : Prop where
  ex : ∃ es n, KDict K w a es n ∧ Paired (fun (p : Str × D) (e : DictEntry) => (∃ t, e.key = .str p.1 t) ∧ Lit K p.2 e.val) tab es.toList
def tget : List (Str × D) → Str → Option D
  | [], _ => none
  | p :: r, z => if p.1 = z then some p.2 else tget r z
section
variable {K : PySem.W.Frag} {w : World} {a : Addr} {tab : List (Str × D)}
theorem isStr_key (x z : Str) (t : Tok) : (Value.str x t).isStr z = decide (x = z) := by
  show (x == z) = decide (x = z)
  by_cases h : x = z
  · rw [decide_eq_true h, h]
    exact beq_self_eq_true z
  · rw [decide_eq_false h]
    exact beq_eq_false_iff_ne.mpr h
theorem find_tab : ∀ {tab : List (Str × D)} {es : List DictEntry} (z : Str), Paired (fun (p : Str × D) (e : DictEntry) => (∃ t, e.key = .str p.1 t) ∧ Lit K p.2 e.val) tab es →
    (es.any (·.refKey) = false) ∧ (match tget tab z with
      | some d => ∃ e, es.find? (·.key.isStr z) = some e ∧ Lit K d e.val
      | none => es.find? (·.key.isStr z) = none)
  | _, _, z, .nil => ⟨rfl, rfl⟩
  | p :: r, e :: es, z, .cons h t => by
    obtain ⟨⟨tk, hk⟩, hl⟩ := h
    obtain ⟨i1, i2⟩ := find_tab z t
    refine ⟨?_, ?_⟩
    · rw [List.any_cons, i1, Bool.or_false]
      unfold DictEntry.refKey
      rw [hk]
    · unfold tget
      rw [List.find?_cons, hk, isStr_key]
      by_cases hz : p.1 = z
      · rw [if_pos hz, decide_eq_true hz]
        exact ⟨e, rfl, hl⟩
      · rw [if_neg hz, decide_eq_false hz]
        exact i2
theorem KTab.get (T : KTab K w a tab) (z : Str) : (∃ es n, KDict K w a es n) ∧ (match tget tab z with
    | some d => ∃ u, PySem.W.nsIn K a z = some (some u) ∧ Lit K d u
    | none => PySem.W.nsIn K a z = some none) := by
  obtain ⟨es, n, D, P⟩ := T.ex
  obtain ⟨h1, h2⟩ := find_tab z P
  refine ⟨⟨es, n, D⟩, ?_⟩
  unfold PySem.W.nsIn
  rw [D.at_]
  cases q : tget tab z with
  | none =>
    rw [q] at h2
    simp only at h2 ⊢
    rw [h2, h1]
    rfl
  | some d =>
    rw [q] at h2
    obtain ⟨e, h3, h4⟩ := h2
    simp only
    rw [h3]
    exact ⟨e.val, rfl, h4⟩
end
def evKIn (neg : Bool) (tab : List (Str × D)) (a : Ev) : Ev := fun ρ μ => (a ρ μ).bind fun p => match p.1 with
  | .str z => some (.bl (if neg then !(tget tab z).isSome else (tget tab z).isSome), p.2)
  | _ => none
def evTKIn (neg : Bool) (tab : List (Str × D)) (a : Ev) : EvT := fun ρ μ => (a ρ μ).bind fun p => match p.1 with
  | .str z => some (if neg then !(tget tab z).isSome else (tget tab z).isSome, p.2)
  | _ => none
def evKIx (tab : List (Str × D)) (a : Ev) : Ev := fun ρ μ => (a ρ μ).bind fun p => match p.1 with
  | .str z => (tget tab z).map fun d => (d, p.2)
  | _ => none
section
variable {X : Cx} {pos p : Pos} {e : Expr} {ev : Ev} {ad : Addr} {tab : List (Str × D)} {x : Str}
theorem pdt_inK (T : KTab X.K X.w ad tab) (hg : Gl X x) (hm : X.mg x = some (.ref ad)) (he : PD X e ev) (hd : (x == ("__debug__" : Str)) = false := by decide) (hb : behindInMarks .In (.Name x p) = false := by rfl) : PDT X (.Compare e [.In] [.Name x p] pos) (evTKIn false tab ev) := by
  obtain ⟨es, n, KD, _⟩ := T.ex
  refine (pt_cmpR (op_in_kd KD) he (pe_glob (v := .ref ad) hg hm rfl hd) hb).le fun σ H Q q => ?_
  obtain ⟨ρ, μ, φ, c, μ', hE, hS, e, k⟩ := q
  obtain ⟨⟨d1, μ1⟩, e1, e⟩ := bind2 e
  refine ⟨ρ, μ, φ, d1, μ1, hE, hS, e1, fun v φ1 H1 b1 r1 => ?_⟩
  cases d1 with
  | str z =>
    cases e
    cases r1
    have g := (T.get z).2
    cases q : tget tab z with
    | none =>
      rw [q] at g k
      exact ⟨z, none, rfl, rfl, g, _, rfl, k φ1 H1 b1⟩
    | some d =>
      rw [q] at g k
      obtain ⟨u, g, _⟩ := g
      exact ⟨z, some u, rfl, rfl, g, _, rfl, k φ1 H1 b1⟩
  | _ => cases e
theorem pdt_notInK (T : KTab X.K X.w ad tab) (hg : Gl X x) (hm : X.mg x = some (.ref ad)) (he : PD X e ev) (hd : (x == ("__debug__" : Str)) = false := by decide) (hb : behindInMarks .NotIn (.Name x p) = false := by rfl) : PDT X (.Compare e [.NotIn] [.Name x p] pos) (evTKIn true tab ev) := by
  obtain ⟨es, n, KD, _⟩ := T.ex
  refine (pt_cmpR (op_notIn_kd KD) he (pe_glob (v := .ref ad) hg hm rfl hd) hb).le fun σ H Q q => ?_
  obtain ⟨ρ, μ, φ, c, μ', hE, hS, e, k⟩ := q
  obtain ⟨⟨d1, μ1⟩, e1, e⟩ := bind2 e
  refine ⟨ρ, μ, φ, d1, μ1, hE, hS, e1, fun v φ1 H1 b1 r1 => ?_⟩
  cases d1 with
  | str z =>
    cases e
    cases r1
    have g := (T.get z).2
    cases q : tget tab z with
    | none =>
      rw [q] at g k
      exact ⟨z, none, rfl, rfl, g, _, rfl, k φ1 H1 b1⟩
    | some d =>
      rw [q] at g k
      obtain ⟨u, g, _⟩ := g
      exact ⟨z, some u, rfl, rfl, g, _, rfl, k φ1 H1 b1⟩
  | _ => cases e
theorem pd_ixK (T : KTab X.K X.w ad tab) (hg : Gl X x) (hm : X.mg x = some (.ref ad)) (he : PD X e ev) (hs : PlainIx e) (hd : (x == ("__debug__" : Str)) = false := by decide) : PD X (.Subscript (.Name x p) e pos) (evKIx tab ev) := by
  obtain ⟨es, n, KD, _⟩ := T.ex
  refine (pe_ix ix_kdict (pe_glob (v := .ref ad) hg hm rfl hd) he hs).le fun σ H Q q => ?_
  obtain ⟨ρ, μ, φ, c, μ', hE, hS, e, k⟩ := q
  obtain ⟨⟨d1, μ1⟩, e1, e⟩ := bind2 e
  refine ⟨ρ, μ, φ, d1, μ1, hE, hS, e1, fun v φ1 H1 b1 r1 => ?_⟩
  cases d1 with
  | str z =>
    obtain ⟨d, e2, e⟩ := map_some e
    cases e
    cases r1
    have g := (T.get z).2
    rw [e2] at g
    obtain ⟨u, g, v, rv, l⟩ := g
    exact ⟨ad, z, v, rfl, rfl, ⟨es, n, u, KD.at_, KD.lit, g, rv⟩, k v φ1 H1 b1 (l φ1 H1)⟩
  | _ => cases e
end
/-! ### for key in a dict of the written part -/
def ItK (xs : List (Str × D)) : It := ⟨fun i _ => i < xs.length, fun i H x H' => H' = H ∧ ∃ p, xs[i]? = some p ∧ x = .str p.1, fun i _ => xs.length ≤ i⟩
theorem turn_kd {P : Program} {w : World} {K : PySem.W.Frag} {tg : Expr} {ad : Addr} {es : Array DictEntry} {n : Nat} {tab : List (Str × D)} (KD : KDict K w ad es n) (hP : Paired (fun (p : Str × D) (e : DictEntry) => (∃ t, e.key = .str p.1 t) ∧ Lit K p.2 e.val) tab es.toList) (it : Addr) :
    Turn P w K tg (ItK tab) [it] it (fun i h => h.IsKeyIter it ad i es.size n) where
  mem := by simp
  obj := fun i h st b hb => by
    have e : b = it := by simpa using hb
    subst e
    obtain ⟨oi, e, c, dd⟩ := st
    exact ⟨oi, e, fun v z => by rw [dd] at z; cases z⟩
  keep := fun i h h' st k => st.at fun oi e => k it (by simp) oi e
  item := by
    intro X hP' hw hK hc i pins s σ H E I hf st hg
    subst hP' hw hK
    obtain ⟨f0, f1, f2, f3, f4, f5⟩ := hf it (by simp)
    have hl : tab.length = es.size := by have := Paired.length hP; simpa using this
    have hgd := I.kIn _ _ KD.at_
    obtain ⟨p, hp⟩ : ∃ p, tab[i]? = some p := ⟨tab[i]'hg, List.getElem?_eq_getElem hg⟩
    obtain ⟨en, hen, ⟨t, hk⟩, _⟩ := paired_get hP hp
    have hen2 : es[i]? = some en := by rw [← Array.getElem?_toList]; exact hen
    refine next_key_item st hgd rfl rfl hen2 fun h' st' sb => ?_
    have I1 : Inv X pins σ H { s with heap := h' } := I.turned (t' := s.toks) (fun b ob hb e => (sb.2 b hb).trans e) f0 f1 f3 f4 f5
    obtain ⟨oi, e, c, dd⟩ := id st'
    refine ⟨en.key, rfl, go_of (s := { s with heap := h' }) e c dd (by decide) ⟨.str p.1, H, I1, ⟨t, hk⟩, ⟨rfl, p, hp, rfl⟩, st', fun b hb => (hf b hb).1⟩⟩
  done := by
    intro X hP' hw hK hc i pins s σ H E I hf st hg
    subst hP' hw hK
    obtain ⟨f0, f1, f2, f3, f4, f5⟩ := hf it (by simp)
    have hl : tab.length = es.size := by have := Paired.length hP; simpa using this
    have hgd := I.kIn _ _ KD.at_
    have hge : es.size ≤ i := by rw [← hl]; exact hg
    exact next_key_end (I.ok.hd hc) st hgd rfl rfl hge fun h' eb => ⟨rfl, I.turned (t' := s.toks) (fun b ob hb e => eb b ob hb e) f0 f1 f3 f4 f5⟩
  self := fun A i s Q E st h => wpAny_pyIter_keyiter st h
def eiKeys (tab : List (Str × D)) : EvI := fun _ μ => some (rdList (tab.map fun p => .str p.1), μ)
section
variable {X : Cx} {pos p : Pos} {ad : Addr} {tab : List (Str × D)} {x : Str} {tg : Expr}
theorem pdi_keysK (T : KTab X.K X.w ad tab) (hg : Gl X x) (hm : X.mg x = some (.ref ad)) (hd : (x == ("__debug__" : Str)) = false := by decide) : PDI X tg (.Name x p) (eiKeys tab) := by
  obtain ⟨es, n, KD, hP⟩ := T.ex
  have h0 : PE X (.Name x p) (tC (.ref ad)) := pe_glob (v := .ref ad) hg hm rfl hd
  refine ⟨fun pins s σ H R I q => ?_⟩
  obtain ⟨ρ, μ, φ, rd, μ', hE, hS, e, k⟩ := q
  cases e
  refine thn (h0.run pins s σ H (fun v H1 => v = .ref ad ∧ H1 = H) I ⟨rfl, rfl⟩) fun u s1 ⟨x', H1, I1, rx, ex, eH⟩ => ?_
  subst ex eH
  obtain rfl : u = Value.ref ad := rx
  refine iter_keys KD.low (I1.kIn _ _ KD.at_) ⟨rfl, rfl, rfl⟩ rfl (pi_one (tk := s1.toks) I1 _ (turn_kd KD hP _) ⟨_, Heap.get?_push_size _ rfl, rfl, rfl⟩ ?_)
  refine k (ItK tab) φ H1 (Bh.refl hS) fun i φ2 H2 μ2 hx hk hS2 => ⟨fun d hd => ?_, fun hd => ?_⟩
  · have hd' : (tab.map fun p => D.str p.1)[i]? = some d := Option.some.inj hd
    rw [List.getElem?_map] at hd'
    obtain ⟨p, hp, e⟩ := map_some hd'
    refine ⟨(List.getElem?_eq_some_iff.mp hp).1, fun x H' y => ?_⟩
    obtain ⟨rfl, p', hp', rfl⟩ := y
    have epp : p = p' := Option.some.inj (hp.symm.trans hp')
    subst epp
    subst e
    exact ⟨Bh.refl hS2, .str _⟩
  · have hd' : (tab.map fun p => D.str p.1)[i]? = none := Option.some.inj hd
    have := List.getElem?_eq_none_iff.mp hd'
    show tab.length ≤ i
    simpa using this
end
/-! ### a dict laid by its pairs -/
def keyD : D → Option Key
  | .int i => some (.inl i)
  | .str x => some (.inr x)
  | _ => none
theorem keyD_rep {K : PySem.W.Frag} {φ : List Addr} {H : Hp} {d : D} {k : Key} {v : V} (e : keyD d = some k) (r : Rep K φ H d v) : v = kV k := by
  cases d <;> first | (cases e; cases r; rfl) | cases e
def evPairs : List (Ev × Ev) → Env → Store → Option (List (Key × D) × Store)
  | [], _, μ => some ([], μ)
  | (k, v) :: r, ρ, μ => (k ρ μ).bind fun p => (keyD p.1).bind fun kk => (v ρ p.2).bind fun q => (evPairs r ρ q.2).map fun t => ((kk, q.1) :: t.1, t.2)
def valD (kvs : List (Key × D)) (k : Key) : Option D := (kvs.find? fun kv => decide (kv.1 = k)).map (·.2)
def putD (kvs : List (Key × D)) (k : Key) (v : D) : List (Key × D) := if (kvs.any fun kv => decide (kv.1 = k)) = true then kvs.map (fun kv => if kv.1 = k then (kv.1, v) else kv) else kvs ++ [(k, v)]
def mergeD (kvs more : List (Key × D)) : List (Key × D) := more.foldl (fun acc kv => putD acc kv.1 kv.2) kvs
section
variable {K : PySem.W.Frag} {φ : List Addr} {H : Hp}
theorem RepK.any {kvs : List (Key × D)} {ws : List (Key × V)} (r : RepK K φ H kvs ws) (k : Key) : (kvs.any fun kv => decide (kv.1 = k)) = (ws.any fun kv => decide (kv.1 = k)) := by
  induction r with
  | nil => rfl
  | cons h t ih => rw [List.any_cons, List.any_cons, ih, h.1]
theorem RepK.map {kvs : List (Key × D)} {ws : List (Key × V)} (r : RepK K φ H kvs ws) (k : Key) {d : D} {v : V} (q : Rep K φ H d v) : RepK K φ H (kvs.map fun kv => if kv.1 = k then (kv.1, d) else kv) (ws.map fun kv => if kv.1 = k then (kv.1, v) else kv) := by
  induction r with
  | nil => exact .nil
  | @cons a b as bs h t ih =>
    refine .cons ?_ ih
    show (if a.1 = k then (a.1, d) else a).1 = (if b.1 = k then (b.1, v) else b).1 ∧ Rep K φ H (if a.1 = k then (a.1, d) else a).2 (if b.1 = k then (b.1, v) else b).2
    by_cases z : a.1 = k
    · rw [if_pos z, if_pos (h.1 ▸ z)]
      exact ⟨h.1, q⟩
    · rw [if_neg z, if_neg (h.1 ▸ z)]
      exact h
theorem RepK.put {kvs : List (Key × D)} {ws : List (Key × V)} (r : RepK K φ H kvs ws) (k : Key) {d : D} {v : V} (q : Rep K φ H d v) : RepK K φ H (putD kvs k d) (putK ws k v) := by
  unfold putD putK
  rw [r.any k]
  split
  · exact r.map k q
  · exact Paired.snoc r ⟨rfl, q⟩
theorem RepK.merge {more : List (Key × D)} {ws : List (Key × V)} (r : RepK K φ H more ws) : ∀ {kvs : List (Key × D)} {us : List (Key × V)}, RepK K φ H kvs us → RepK K φ H (mergeD kvs more) (mergeK us ws) := by
  induction r with
  | nil => exact fun q => q
  | @cons a b as bs h t ih =>
    intro kvs us q
    have e := q.put a.1 h.2
    have e2 : RepK K φ H (putD kvs a.1 a.2) (putK us b.1 b.2) := by rw [← h.1]; exact e
    exact ih e2
theorem RepK.val {kvs : List (Key × D)} {ws : List (Key × V)} (r : RepK K φ H kvs ws) (k : Key) : (valD kvs k = none ∧ valV ws k = none) ∨ ∃ d v, valD kvs k = some d ∧ valV ws k = some v ∧ Rep K φ H d v := by
  induction r with
  | nil => exact .inl ⟨rfl, rfl⟩
  | @cons a b as bs h t ih =>
    unfold valD valV at *
    rw [List.find?_cons, List.find?_cons, h.1]
    by_cases z : b.1 = k
    · rw [decide_eq_true z]
      exact .inr ⟨a.2, b.2, rfl, rfl, h.2⟩
    · rw [decide_eq_false z]
      exact ih
theorem RepK.len {kvs : List (Key × D)} {ws : List (Key × V)} (r : RepK K φ H kvs ws) : kvs.length = ws.length := Paired.length r
theorem tPairs_of : ∀ {trs : List (Ev × Ev)} {σ : L2.St} {H : Hp} {ρ : Env} {μ μ' : Store} {φ : List Addr} {kvs : List (Key × D)} {R : List (V × V) → Hp → Prop}, EnvR K φ H σ ρ → StR K φ H μ → evPairs trs ρ μ = some (kvs, μ') →
    (∀ (ws : List (Key × V)) φ' H', Bh K φ H φ' H' μ' → RepK K φ' H' kvs ws → R (ws.map fun kv => (kV kv.1, kv.2)) H') → tPairs (trs.map fun p => (tE K p.1, tE K p.2)) σ H R
  | [], σ, H, ρ, μ, μ', φ, kvs, R, hE, hS, e, k => by
    cases e
    exact k [] φ H (Bh.refl hS) .nil
  | (tk, tv) :: r, σ, H, ρ, μ, μ', φ, kvs, R, hE, hS, e, k => by
    unfold evPairs at e
    obtain ⟨⟨d1, μ1⟩, e1, e⟩ := bind2 e
    obtain ⟨kk, e2, e⟩ := bind2 e
    obtain ⟨⟨d3, μ3⟩, e3, e⟩ := bind2 e
    obtain ⟨⟨rs, μ4⟩, e4, e⟩ := map_some e
    cases e
    refine ⟨ρ, μ, φ, d1, μ1, hE, hS, e1, fun x φ1 H1 b1 r1 => ⟨ρ, μ1, φ1, d3, μ3, hE.mono b1.ext b1.kp, b1.st, e3, fun y φ2 H2 b2 r2 => ?_⟩⟩
    have ex := keyD_rep e2 r1
    subst ex
    have b12 := b1.trans b2
    refine tPairs_of (hE.mono b12.ext b12.kp) b2.st e4 fun ws φ3 H3 b3 r3 => ?_
    exact k ((kk, y) :: ws) φ3 H3 (b12.trans b3) (.cons ⟨rfl, r2.mono b3.ext b3.kp⟩ r3)
end
def evDisp (trs : List (Ev × Ev)) : Ev := fun ρ μ => (evPairs trs ρ (μ ++ [.dk []])).bind fun p => match p.2[μ.length]? with
  | some (.dk []) => if p.1.length ≤ 15 then some (.loc μ.length, p.2.set μ.length (.dk (mergeD [] p.1))) else none
  | _ => none
def evDGet2 (a k d : Ev) : Ev := fun ρ μ => (a ρ μ).bind fun p => match p.1 with
  | .loc n => match p.2[n]? with
    | some (.dk _) => (k ρ p.2).bind fun q => (keyD q.1).bind fun kk => (d ρ q.2).bind fun r => match r.2[n]? with
      | some (.dk kvs) => some ((valD kvs kk).getD r.1, r.2)
      | _ => none
    | _ => none
  | _ => none
section
variable {X : Cx} {pos : Pos}
theorem pd_disp {keys : List (Option Expr)} {values : List Expr} {trs : List (Ev × Ev)} (h : PPs X pos keys values (trs.map fun p => (tE X.K p.1, tE X.K p.2))) (hall : keys.all (·.isSome) = true := by rfl) (hl : keys.length = values.length := by rfl) (h0 : keys ≠ [] := by simp)
    (h15 : keys.length ≤ 15 := by decide) : PD X (.Dict keys values pos) (evDisp trs) := by
  refine (pe_disp h hall hl h0 h15).le fun σ H Q q => ?_
  obtain ⟨ρ, μ, φ, d, μ', hE, hS, e, k⟩ := q
  obtain ⟨⟨kvs, μ1⟩, e1, e⟩ := bind2 e
  intro p hp
  have kp : Kp X.K H (upd H p (.dK [])) := Kp.new hp
  have b0 : Bh X.K φ H (φ ++ [p]) (upd H p (.dK [])) (μ ++ [.dk []]) := ⟨Ext.snoc _ _, kp, hS.pushO hp ⟨[], rfl, .nil⟩⟩
  have g0 : (φ ++ [p])[μ.length]? = some p := by rw [← hS.len, List.getElem?_append_right (Nat.le_refl _), Nat.sub_self]; rfl
  refine tPairs_of (hE.mono b0.ext b0.kp) b0.st e1 fun ws φ1 H1 b1 r1 => ?_
  split at e
  · rename_i em
    split at e
    · rename_i hl2
      cases e
      have g1 := b1.ext.get g0
      obtain ⟨us, h2, h3⟩ := b1.st.addrK g1 em
      cases h3
      refine ⟨h2, ws, rfl, by rw [← r1.len]; exact hl2, ?_⟩
      obtain ⟨w1, w2⟩ := b1.st.writeO (m := .dk (mergeD [] kvs)) (o := .dK (mergeK [] ws)) g1 ⟨_, rfl, r1.merge .nil⟩
      exact k _ φ1 _ ((b0.trans b1).trans ⟨Ext.refl _, w2, w1⟩) (.loc g1)
    · cases e
  · cases e
theorem pd_dget2 {o a b : Expr} {apos : Pos} {eo ea eb : Ev} (hu : X.A.units + 1 < cLine) (ho : PD X o eo) (ha : PD X a ea) (hb : PD X b eb) (m : M2 X o "get" apos a b pos) : PD X (.Call (.Attribute o "get" apos) [a, b] [] pos) (evDGet2 eo ea eb) := by
  refine (pe_dget2 hu ho ha hb m).le fun σ H Q q => ?_
  obtain ⟨ρ, μ, φ, d, μ', hE, hS, e, k⟩ := q
  obtain ⟨⟨d1, μ1⟩, e1, e⟩ := bind2 e
  cases d1 with
  | loc n =>
    simp only at e
    split at e
    · rename_i kv0 em
      obtain ⟨⟨d2, μ2⟩, e2, e⟩ := bind2 e
      obtain ⟨kk, e3, e⟩ := bind2 e
      obtain ⟨⟨d4, μ4⟩, e4, e⟩ := bind2 e
      refine ⟨ρ, μ, φ, .loc n, μ1, hE, hS, e1, fun x φ1 H1 b1 r1 => ?_⟩
      cases r1 with
      | loc hn =>
        rename_i p
        obtain ⟨us, h2, h3⟩ := b1.st.addrK hn em
        refine ⟨p, rfl, .inl ⟨us, .inl h2⟩, ρ, μ1, φ1, d2, μ2, hE.mono b1.ext b1.kp, b1.st, e2, fun y φ2 H2 b2 r2 => ?_⟩
        have b12 := b1.trans b2
        refine ⟨ρ, μ2, φ2, d4, μ4, hE.mono b12.ext b12.kp, b2.st, e4, fun z φ4 H4 b4 r4 => ?_⟩
        have ey := keyD_rep e3 r2
        subst ey
        split at e
        · rename_i kvs em4
          cases e
          obtain ⟨ws, h5, h6⟩ := b4.st.addrK ((b2.trans b4).ext.get hn) em4
          refine ⟨_, DGet.k h5, ?_⟩
          rcases h6.val kk with ⟨q1, q2⟩ | ⟨d5, v5, q1, q2, r5⟩
          · rw [q2]
            rw [q1] at k
            exact k z φ4 H4 (b12.trans b4) r4
          · rw [q2]
            rw [q1] at k
            exact k v5 φ4 H4 (b12.trans b4) r5
        · cases e
    · cases e
  | _ => cases e
end
end PDL
set_option Elab.async false
set_option linter.all false
set_option maxRecDepth 100000
/-! PD6: what is left behind is forgotten; defs by name; rules by name. -/
namespace PDL
open PySem PySem.Spec PyProof.Rows L2

/-! ### numbers of the store below a line -/
mutual
def locB (n : Nat) : D → Bool
  | .loc m => decide (m < n)
  | .tup xs => locsB n xs
  | .rl xs => locsB n xs
  | _ => true
def locsB (n : Nat) : List D → Bool
  | [] => true
  | d :: ds => locB n d && locsB n ds
end
def locM (n : Nat) : MO → Bool
  | .lst xs => locsB n xs
  | .dk kvs => locsB n (kvs.map (·.2))
section
variable {K : PySem.W.Frag} {φ φ' : List Addr} {H H' : Hp}
theorem and1 {a b : Bool} (h : (a && b) = true) : a = true ∧ b = true := Bool.and_eq_true_iff.mp h
mutual
theorem Rep.undr : ∀ (d : D) (v : V), Rep K φ H d v → locB φ.length d = true
  | .non, _, _ => rfl
  | .bl b, _, _ => rfl
  | .int i, _, _ => rfl
  | .str x, _, _ => rfl
  | .ty n, _, _ => rfl
  | .kd a, _, _ => rfl
  | .loc n, _, h => by
    cases h with
    | loc q => exact decide_eq_true (List.getElem?_eq_some_iff.mp q).1
  | .rl ds, _, h => by
    cases h with
    | rl q r => exact Reps.undr ds _ r
  | .tup ds, _, h => by
    cases h with
    | tup q r => exact Reps.undr ds _ r
theorem Reps.undr : ∀ (ds : List D) (vs : List V), Reps K φ H ds vs → locsB φ.length ds = true
  | [], _, _ => rfl
  | d :: ds, _, h => by
    cases h with
    | cons r q =>
      show (locB φ.length d && locsB φ.length ds) = true
      rw [Rep.undr d _ r, Reps.undr ds _ q]
      rfl
end
mutual
theorem Rep.down (φ1 more : List Addr) : ∀ (d : D) (v : V), locB φ1.length d = true → Rep K (φ1 ++ more) H d v → Rep K φ1 H d v
  | .non, _, _, h => by cases h; exact .non
  | .bl b, _, _, h => by cases h; exact .bl b
  | .int i, _, _, h => by cases h; exact .int i
  | .str x, _, _, h => by cases h; exact .str x
  | .ty n, _, _, h => by cases h; exact .ty n
  | .kd a, _, _, h => by cases h; exact .kd a
  | .loc n, _, l, h => by
    cases h with
    | loc q =>
      have hn : n < φ1.length := of_decide_eq_true l
      rw [List.getElem?_append_left hn] at q
      exact .loc q
  | .rl ds, _, l, h => by
    cases h with
    | rl q r => exact .rl q (Reps.down φ1 more ds _ l r)
  | .tup ds, _, l, h => by
    cases h with
    | tup q r => exact .tup q (Reps.down φ1 more ds _ l r)
theorem Reps.down (φ1 more : List Addr) : ∀ (ds : List D) (vs : List V), locsB φ1.length ds = true → Reps K (φ1 ++ more) H ds vs → Reps K φ1 H ds vs
  | [], _, _, h => by cases h; exact .nil
  | d :: ds, _, l, h => by
    cases h with
    | cons r q =>
      obtain ⟨l1, l2⟩ := and1 (show (locB φ1.length d && locsB φ1.length ds) = true from l)
      exact .cons (Rep.down φ1 more d _ l1 r) (Reps.down φ1 more ds _ l2 q)
end
theorem RepK.undr {xs : List (Key × D)} {ys : List (Key × V)} (r : RepK K φ H xs ys) : locsB φ.length (xs.map (·.2)) = true := by
  induction r with
  | nil => rfl
  | @cons a b as bs h t ih =>
    show (locB φ.length a.2 && locsB φ.length (as.map (·.2))) = true
    rw [Rep.undr _ _ h.2, ih]
    rfl
theorem RepK.down {φ1 more : List Addr} {xs : List (Key × D)} {ys : List (Key × V)} (r : RepK K (φ1 ++ more) H xs ys) (l : locsB φ1.length (xs.map (·.2)) = true) : RepK K φ1 H xs ys := by
  induction r with
  | nil => exact .nil
  | @cons a b as bs h t ih =>
    obtain ⟨l1, l2⟩ := and1 (show (locB φ1.length a.2 && locsB φ1.length (as.map (·.2))) = true from l)
    exact .cons ⟨h.1, Rep.down φ1 more _ _ l1 h.2⟩ (ih l2)
theorem RepO.undr : ∀ {m : MO} {o : HO}, RepO K φ H m o → locM φ.length m = true
  | .lst _, _, ⟨_, _, r⟩ => Reps.undr _ _ r
  | .dk _, _, ⟨_, _, r⟩ => RepK.undr r
theorem RepO.down {φ1 more : List Addr} : ∀ {m : MO} {o : HO}, RepO K (φ1 ++ more) H m o → locM φ1.length m = true → RepO K φ1 H m o
  | .lst _, _, ⟨vs, e, r⟩, l => ⟨vs, e, Reps.down φ1 more _ _ l r⟩
  | .dk _, _, ⟨ws, e, r⟩, l => ⟨ws, e, RepK.down r l⟩
end
mutual
theorem locB_le {m n : Nat} (h : m ≤ n) : ∀ d : D, locB m d = true → locB n d = true
  | .loc k, e => decide_eq_true (Nat.lt_of_lt_of_le (of_decide_eq_true e) h)
  | .tup xs, e => locsB_le h xs e
  | .rl xs, e => locsB_le h xs e
  | .non, _ => rfl
  | .bl _, _ => rfl
  | .int _, _ => rfl
  | .str _, _ => rfl
  | .ty _, _ => rfl
  | .kd _, _ => rfl
theorem locsB_le {m n : Nat} (h : m ≤ n) : ∀ ds : List D, locsB m ds = true → locsB n ds = true
  | [], _ => rfl
  | d :: ds, e => by
    obtain ⟨l1, l2⟩ := and1 (show (locB m d && locsB m ds) = true from e)
    show (locB n d && locsB n ds) = true
    rw [locB_le h d l1, locsB_le h ds l2]
    rfl
end
theorem locM_le {m n : Nat} (h : m ≤ n) : ∀ d : MO, locM m d = true → locM n d = true
  | .lst xs, e => locsB_le h xs e
  | .dk kvs, e => locsB_le h _ e
/-- a promise whose leavings are forgotten -/
def Clean (n : Nat) (μ : Store) (d : D) (μ1 : Store) : Prop := μ.length ≤ μ1.length ∧ locB (max n μ1.length) d = true ∧ locB μ1.length d = true ∧ ∀ (i : Nat) (m : MO), μ1[i]? = some m → μ[i]? = some m ∨ locM μ1.length m = true
section
variable {P : Program} {w : World} {K : PySem.W.Frag} {mg : Str → Option Value} {base : Heap}
theorem fn_gc {k n : Nat} {f : Addr} {fd : FuncData} {ps : List Str} {m m' : List D → Store → Option (D × Store)} (F : FnOk P w K mg base CX0 k f fd ps (spD K n m))
    (h : ∀ ds μ d μ1, ds.length = n → locsB μ.length ds = true → (∀ (i : Nat) (o : MO), μ[i]? = some o → locM μ.length o = true) → m' ds μ = some (d, μ1) → ∃ ex, m ds μ = some (d, μ1 ++ ex) ∧ μ.length ≤ μ1.length ∧ locB μ1.length d = true ∧ ∀ (i : Nat) (o : MO), μ1[i]? = some o → locM μ1.length o = true) :
    FnOk P w K mg base CX0 k f fd ps (spD K n m') :=
  F.imp fun vs H Q E q => by
    obtain ⟨φ, ds, μ, d, μ1, hl, r, hS, e, k⟩ := q
    have hb := r.undr
    rw [hS.len] at hb
    have hb2 : ∀ (i : Nat) (o : MO), μ[i]? = some o → locM μ.length o = true := fun i o q => by
      obtain ⟨a, ho, _, _, r⟩ := hS.at_ i o q
      rw [← hS.len]
      exact r.undr
    obtain ⟨ex, e2, hle, hd, hst⟩ := h ds μ d μ1 hl hb hb2 e
    refine ⟨φ, ds, μ, d, μ1 ++ ex, hl, r, hS, e2, fun v φ' H' b rv => ?_⟩
    have hlen : φ'.length = μ1.length + ex.length := by rw [b.st.len, List.length_append]
    have hsplit : φ' = φ'.take μ1.length ++ φ'.drop μ1.length := (List.take_append_drop _ _).symm
    have ht : (φ'.take μ1.length).length = μ1.length := by rw [List.length_take, hlen]; omega
    refine k v (φ'.take μ1.length) H' ⟨?_, b.kp, ⟨ht, ?_, fun i o q => ?_⟩⟩ ?_
    · obtain ⟨more, em⟩ := b.ext
      refine ⟨(φ'.take μ1.length).drop φ.length, ?_⟩
      have : φ = (φ'.take μ1.length).take φ.length := by
        rw [List.take_take, em, Nat.min_eq_left (by rw [hS.len]; exact hle), List.take_left']
        rfl
      conv => rhs; lhs; rw [this]
      exact (List.take_append_drop _ _).symm
    · exact (List.take_sublist _ _).nodup b.st.nd
    · have hi : i < μ1.length := (List.getElem?_eq_some_iff.mp q).1
      obtain ⟨a, ho, h1, h2, h3⟩ := b.st.at_ i o (by rw [List.getElem?_append_left hi]; exact q)
      refine ⟨a, ho, by rw [List.getElem?_take_of_lt hi]; exact h1, h2, ?_⟩
      rw [hsplit] at h3
      exact h3.down (by rw [ht]; exact hst i o q)
    · rw [hsplit] at rv
      exact Rep.down _ _ _ _ (by rw [ht]; exact hd) rv

/-! ### defs by name -/
/-- a def of the module: where its name leads -/
def Df (K : PySem.W.Frag) (mg : Str → Option Value) (x : Str) (st : Stmt) : Prop := ∃ f fd, mg x = some (.ref f) ∧ FunD K x x (defArgs st) (defBody st) (defScope st) [] [] f fd
def Has (P : Program) (w : World) (K : PySem.W.Frag) (mg : Str → Option Value) (base : Heap) (k : Nat) (x : Str) (ps : List Str) (m : List D → Store → Option (D × Store)) : Prop :=
  (∀ ds μ r, m ds μ = some r → ds.length = ps.length) ∧ ∃ f fd, mg x = some (.ref f) ∧ PySem.W.keepIn K (.ref f) = true ∧ Binds K fd ps [] ∧ FnOk P w K mg base CX0 k f fd ps (spD K ps.length m)
def HasK (P : Program) (w : World) (K : PySem.W.Frag) (mg : Str → Option Value) (base : Heap) (k : Nat) (x n : Str) (m : List D → Store → Option (D × Store)) : Prop :=
  ∃ f fd, mg x = some (.ref f) ∧ PySem.W.keepIn K (.ref f) = true ∧ KB1 K fd n ∧ FnOk P w K mg base CX0 k f fd [n] (spD K 1 m)
theorem Has.mono {j k : Nat} {x : Str} {ps : List Str} {m : List D → Store → Option (D × Store)} (F : Has P w K mg base j x ps m) (h : j ≤ k) : Has P w K mg base k x ps m := by
  obtain ⟨hn, f, fd, h1, h2, h3, h4⟩ := F
  exact ⟨hn, f, fd, h1, h2, h3, h4.mono h⟩
theorem Has.of {x : Str} {st : Stmt} {N ps : List Str} {k : Nat} {ev : EvS} (F : Df K mg x st) (S : FnScope N ps (defScope st))
    (hb : ∀ (kV doc pm : Value) (an : Option Addr) (cdv ct : Value) (us : List Value), us.length = ps.length → bindArgs (PySem.W.fnOf x x (defArgs st) (defBody st) (defScope st) .none kV doc pm an cdv ct) ⟨us, []⟩ = pure (ps.zip us))
    (hbody : ∀ (f : Addr) (cdv : Value) (A : Around) (outer : List PySem.Env) (s : Shared) (H : Hp) (E : XK), Room k (A.deeper (envOfC x (defScope st) s.heap.objs.size f cdv)) →
      PDSs (cxOf CX0 P w K mg base N x (defScope st) f cdv A outer s H E).nox (defBody st) ev) : Has P w K mg base (k + 1) x ps (runF N ev ps.length) := by
  obtain ⟨f, fd, hm, FD⟩ := F
  exact ⟨runF_len, f, fd, hm, FD.kp, FD.bindsN hb, fnD FD S rfl fun cdv A outer s H E hr => hbody f cdv A outer s H E hr⟩
theorem HasK.of {x n : Str} {st : Stmt} {N : List Str} {k : Nat} {ev : EvS} (F : Df K mg x st) (S : FnScope N [n] (defScope st))
    (hb : ∀ (kV doc pm : Value) (an : Option Addr) (cdv ct : Value) (u : Value), bindArgs (PySem.W.fnOf x x (defArgs st) (defBody st) (defScope st) .none kV doc pm an cdv ct) ⟨[], [(n, u)]⟩ = pure [(n, u)])
    (hbody : ∀ (f : Addr) (cdv : Value) (A : Around) (outer : List PySem.Env) (s : Shared) (H : Hp) (E : XK), Room k (A.deeper (envOfC x (defScope st) s.heap.objs.size f cdv)) →
      PDSs (cxOf CX0 P w K mg base N x (defScope st) f cdv A outer s H E).nox (defBody st) ev) : HasK P w K mg base (k + 1) x n (runF N ev 1) := by
  obtain ⟨f, fd, hm, FD⟩ := F
  refine ⟨f, fd, hm, FD.kp, fun s u _ => ?_, fnD FD S rfl fun cdv A outer s H E hr => hbody f cdv A outer s H E hr⟩
  obtain ⟨oc, od, dV, kV, doc, pm, an, cdv, ct, osl, rfl, lk, hcd, hD, hK⟩ := FD.ex
  rcases hD with ⟨_, rfl⟩ | ⟨e, _⟩
  · exact .of_eq (hb kV doc pm an cdv ct u)
  · exact absurd rfl e
/-- m' answers as m, its leavings forgotten -/
def Gc (n : Nat) (m m' : List D → Store → Option (D × Store)) : Prop := ∀ ds μ d μ1, ds.length = n → locsB μ.length ds = true → (∀ (i : Nat) (o : MO), μ[i]? = some o → locM μ.length o = true) → m' ds μ = some (d, μ1) →
  ∃ ex, m ds μ = some (d, μ1 ++ ex) ∧ μ.length ≤ μ1.length ∧ locB μ1.length d = true ∧ ∀ (i : Nat) (o : MO), μ1[i]? = some o → locM μ1.length o = true
theorem Has.gc {k : Nat} {x : Str} {ps : List Str} {m m' : List D → Store → Option (D × Store)} (F : Has P w K mg base k x ps m) (hn : ∀ ds μ r, m' ds μ = some r → ds.length = ps.length) (h : Gc ps.length m m') : Has P w K mg base k x ps m' := by
  obtain ⟨_, f, fd, h1, h2, h3, h4⟩ := F
  exact ⟨hn, f, fd, h1, h2, h3, fn_gc h4 h⟩
theorem HasK.gc {k : Nat} {x n : Str} {m m' : List D → Store → Option (D × Store)} (F : HasK P w K mg base k x n m) (h : Gc 1 m m') : HasK P w K mg base k x n m' := by
  obtain ⟨f, fd, h1, h2, h3, h4⟩ := F
  exact ⟨f, fd, h1, h2, h3, fn_gc h4 h⟩
/-- the def's promise as a function that leaves the store as it is -/
def pureM (g : List D → Option D) (ds : List D) (μ : Store) : Option (D × Store) := (g ds).map fun d => (d, μ)
theorem gc_pure {n : Nat} {m : List D → Store → Option (D × Store)} {g : List D → Option D} (h : ∀ ds μ d, g ds = some d → locB 0 d = true ∧ ∃ ex, m ds μ = some (d, μ ++ ex)) : Gc n m (pureM g) := by
  intro ds μ d μ1 hl hb hm e
  obtain ⟨d', e1, e2⟩ := map_some (show (g ds).map (fun d => (d, μ)) = some (d, μ1) from e)
  cases e2
  obtain ⟨h1, ex, h2⟩ := h ds μ d e1
  exact ⟨ex, h2, Nat.le_refl _, locB_le (Nat.zero_le _) _ h1, hm⟩
end
section
variable {X : Cx} {pos p apos : Pos} {a b o : Expr} {es : List Expr} {ev ea eb : Ev} {eas : EvA} {x : Str}
theorem pd_fn {j k : Nat} {ps : List Str} {m : List D → Store → Option (D × Store)} (F : Has X.prog X.w X.K X.mg X.base j x ps m) (hr : Room k X.A) (hjk : j ≤ k) (ha : PDA X (a :: es) eas) (hg : Gl X x := by rfl) (hdb : (x == ("__debug__" : Str)) = false := by decide) (he : starEach (a :: es) X.env = (false, eval a X.env) :: starEach es X.env := by rfl)
    (hpl : (backTo pos (starEach es X.env)).any (·.1) = false := by rfl) : PD X (.Call (.Name x p) (a :: es) [] pos) (evCall m eas) := by
  obtain ⟨hn, f, fd, h1, h2, h3, h4⟩ := F
  exact pd_call h4 (hr.mono hjk) hg h1 h2 h3 hn ha hdb he hpl
theorem pd_fnK {j k : Nat} {n : Str} {kpos : Pos} {e : Expr} {m : List D → Store → Option (D × Store)} (F : HasK X.prog X.w X.K X.mg X.base j x n m) (hr : Room k X.A) (hjk : j ≤ k) (he : PD X e ev) (hg : Gl X x := by rfl) (hall : (backToKw pos (keywordEach [⟨some n, e, kpos⟩] X.env)).all (·.1.isSome) = true := by rfl) (hks : (backToKw pos (keywordEach [⟨some n, e, kpos⟩] X.env)).filterMap (·.1) = [n] := by rfl)
    (hdb : (x == ("__debug__" : Str)) = false := by decide) (hpl : ((backTo pos (starEach [] X.env)).any (·.1) || (backToKw pos (keywordEach [⟨some n, e, kpos⟩] X.env)).any (·.1.isNone)) = false := by rfl) :
    PD X (.Call (.Name x p) [] [⟨some n, e, kpos⟩] pos) (evCall m (evCons ev evNil)) := by
  obtain ⟨f, fd, h1, h2, h3, h4⟩ := F
  exact pd_callK1 h4 (hr.mono hjk) hg h1 h2 h3 he hall hks hdb hpl
theorem pd_append (ho : PD X o ev) (ha : PDA X [a] eas)
    (hbase : attributeBase o "append" X.env (eval o X.env) = eval o X.env := by rfl)
    (hfew : ((backTo pos (starEach [a] X.env)).all (fun x => !x.1) && (backToKw pos (keywordEach [] X.env)).all (fun x => x.1.isSome)
      && decide (([a] : List Expr).length + ([] : List Keyword).length + (if ([] : List Keyword).isEmpty then 0 else 1) < 30)) = true := by rfl)
    (hline : (apos.endLine == pos.line) = true := by rfl) (hs : starEach [a] X.env = (false, eval a X.env) :: starEach [] X.env := by rfl) (hplain : (backTo pos (starEach [] X.env)).any (·.1) = false := by rfl) :
    PD X (.Call (.Attribute o "append" apos) [a] [] pos) (evMeth "list" dAppend ev eas) := pd_meth PySem.F.plainAttrs_list PySem.F.slot_list_append PySem.F.type_list_append mt_append dAppend_ok ho ha hbase hfew hline hs hplain
theorem pd_extend (ho : PD X o ev) (ha : PDA X [a] eas)
    (hbase : attributeBase o "extend" X.env (eval o X.env) = eval o X.env := by rfl)
    (hfew : ((backTo pos (starEach [a] X.env)).all (fun x => !x.1) && (backToKw pos (keywordEach [] X.env)).all (fun x => x.1.isSome)
      && decide (([a] : List Expr).length + ([] : List Keyword).length + (if ([] : List Keyword).isEmpty then 0 else 1) < 30)) = true := by rfl)
    (hline : (apos.endLine == pos.line) = true := by rfl) (hs : starEach [a] X.env = (false, eval a X.env) :: starEach [] X.env := by rfl) (hplain : (backTo pos (starEach [] X.env)).any (·.1) = false := by rfl) :
    PD X (.Call (.Attribute o "extend" apos) [a] [] pos) (evMeth "list" dExtend ev eas) := pd_meth PySem.F.plainAttrs_list PySem.F.slot_list_extend PySem.F.type_list_extend mt_extendA dExtend_ok ho ha hbase hfew hline hs hplain
theorem pd_pop (ho : PD X o ev) (hbase : attributeBase o "pop" X.env (eval o X.env) = eval o X.env := by rfl) (hline : (apos.endLine == pos.line) = true := by rfl) : PD X (.Call (.Attribute o "pop" apos) [] [] pos) (evMeth "list" dPop ev evNil) :=
  pd_meth0 PySem.F.plainAttrs_list PySem.F.slot_list_pop PySem.F.type_list_pop mt_pop dPop_ok ho hbase hline
theorem pd_join (ho : PD X o ev) (ha : PDA X [a] eas)
    (hbase : attributeBase o "join" X.env (eval o X.env) = eval o X.env := by rfl)
    (hfew : ((backTo pos (starEach [a] X.env)).all (fun x => !x.1) && (backToKw pos (keywordEach [] X.env)).all (fun x => x.1.isSome)
      && decide (([a] : List Expr).length + ([] : List Keyword).length + (if ([] : List Keyword).isEmpty then 0 else 1) < 30)) = true := by rfl)
    (hline : (apos.endLine == pos.line) = true := by rfl) (hs : starEach [a] X.env = (false, eval a X.env) :: starEach [] X.env := by rfl) (hplain : (backTo pos (starEach [] X.env)).any (·.1) = false := by rfl) :
    PD X (.Call (.Attribute o "join" apos) [a] [] pos) (evMeth "str" dJoin ev eas) := pd_meth PySem.F.plainAttrs_str PySem.F.slot_str_join PySem.F.type_str_join mt_join dJoin_ok ho ha hbase hfew hline hs hplain
theorem pd_split (ho : PD X o ev) (ha : PDA X [a] eas)
    (hbase : attributeBase o "split" X.env (eval o X.env) = eval o X.env := by rfl)
    (hfew : ((backTo pos (starEach [a] X.env)).all (fun x => !x.1) && (backToKw pos (keywordEach [] X.env)).all (fun x => x.1.isSome)
      && decide (([a] : List Expr).length + ([] : List Keyword).length + (if ([] : List Keyword).isEmpty then 0 else 1) < 30)) = true := by rfl)
    (hline : (apos.endLine == pos.line) = true := by rfl) (hs : starEach [a] X.env = (false, eval a X.env) :: starEach [] X.env := by rfl) (hplain : (backTo pos (starEach [] X.env)).any (·.1) = false := by rfl) :
    PD X (.Call (.Attribute o "split" apos) [a] [] pos) (evMeth "str" dSplit ev eas) := pd_meth PySem.F.plainAttrs_str PySem.F.slot_str_split PySem.F.type_str_split mt_split dSplit_ok ho ha hbase hfew hline hs hplain
theorem pd_find (ho : PD X o ev) (ha : PDA X [a, b] eas)
    (hbase : attributeBase o "find" X.env (eval o X.env) = eval o X.env := by rfl)
    (hfew : ((backTo pos (starEach [a, b] X.env)).all (fun x => !x.1) && (backToKw pos (keywordEach [] X.env)).all (fun x => x.1.isSome)
      && decide (([a, b] : List Expr).length + ([] : List Keyword).length + (if ([] : List Keyword).isEmpty then 0 else 1) < 30)) = true := by rfl)
    (hline : (apos.endLine == pos.line) = true := by rfl) (hs : starEach [a, b] X.env = (false, eval a X.env) :: starEach [b] X.env := by rfl) (hplain : (backTo pos (starEach [b] X.env)).any (·.1) = false := by rfl) :
    PD X (.Call (.Attribute o "find" apos) [a, b] [] pos) (evMeth "str" dFind ev eas) := pd_meth PySem.F.plainAttrs_str PySem.F.slot_str_find PySem.F.type_str_find mt_find3 dFind_ok ho ha hbase hfew hline hs hplain
theorem boot_b (x : Str) (u : Value) (h : bootBuiltins x = some u := by decide +kernel) : bootBuiltins x = some u := h
theorem bt_len : bootBuiltins "len" = some (.builtin "len") := by decide +kernel
theorem bt_isi : bootBuiltins "isinstance" = some (.builtin "isinstance") := by decide +kernel
theorem bt_all : bootBuiltins "all" = some (.builtin "all") := by decide +kernel
theorem bt_ord : bootBuiltins "ord" = some (.builtin "ord") := by decide +kernel
theorem bt_abs : bootBuiltins "abs" = some (.builtin "abs") := by decide +kernel
theorem bt_max : bootBuiltins "max" = some (.builtin "max") := by decide +kernel
theorem bt_min : bootBuiltins "min" = some (.builtin "min") := by decide +kernel
theorem bt_divmod : bootBuiltins "divmod" = some (.builtin "divmod") := by decide +kernel
theorem bt_int : bootBuiltins "int" = some (.type "int") := by decide +kernel
theorem bt_str : bootBuiltins "str" = some (.type "str") := by decide +kernel
theorem bt_bool : bootBuiltins "bool" = some (.type "bool") := by decide +kernel
theorem bt_tuple : bootBuiltins "tuple" = some (.type "tuple") := by decide +kernel
theorem bt_list : bootBuiltins "list" = some (.type "list") := by decide +kernel
theorem pd_len (hm : X.mg "len" = none) (ha : PDA X (a :: es) eas) (hg : Gl X "len" := by rfl) (he : starEach (a :: es) X.env = (false, eval a X.env) :: starEach es X.env := by rfl) (hpl : (backTo pos (starEach es X.env)).any (·.1) = false := by rfl) :
    PD X (.Call (.Name "len" p) (a :: es) [] pos) (evCall dLen eas) := pd_callB call_len dLen_ok hg hm bt_len ha (by decide) (by decide) he hpl
theorem pd_isi (hm : X.mg "isinstance" = none) (ha : PDA X (a :: es) eas) (hg : Gl X "isinstance" := by rfl) (he : starEach (a :: es) X.env = (false, eval a X.env) :: starEach es X.env := by rfl) (hpl : (backTo pos (starEach es X.env)).any (·.1) = false := by rfl) :
    PD X (.Call (.Name "isinstance" p) (a :: es) [] pos) (evCall dIsi eas) := pd_callB call_isi dIsi_ok hg hm bt_isi ha (by decide) (by decide) he hpl
theorem pd_all (hc : X.calm = true) (hm : X.mg "all" = none) (ha : PDA X (a :: es) eas) (hg : Gl X "all" := by rfl) (he : starEach (a :: es) X.env = (false, eval a X.env) :: starEach es X.env := by rfl) (hpl : (backTo pos (starEach es X.env)).any (·.1) = false := by rfl) :
    PD X (.Call (.Name "all" p) (a :: es) [] pos) (evCall dAll eas) := pd_callB (cr_all hc) dAll_ok hg hm bt_all ha (by decide) (by decide) he hpl
theorem pd_ord (hm : X.mg "ord" = none) (ha : PDA X (a :: es) eas) (hg : Gl X "ord" := by rfl) (he : starEach (a :: es) X.env = (false, eval a X.env) :: starEach es X.env := by rfl) (hpl : (backTo pos (starEach es X.env)).any (·.1) = false := by rfl) :
    PD X (.Call (.Name "ord" p) (a :: es) [] pos) (evCall dOrd eas) := pd_callB call_ord dOrd_ok hg hm bt_ord ha (by decide) (by decide) he hpl
theorem pd_abs (hm : X.mg "abs" = none) (ha : PDA X (a :: es) eas) (hg : Gl X "abs" := by rfl) (he : starEach (a :: es) X.env = (false, eval a X.env) :: starEach es X.env := by rfl) (hpl : (backTo pos (starEach es X.env)).any (·.1) = false := by rfl) :
    PD X (.Call (.Name "abs" p) (a :: es) [] pos) (evCall dAbs eas) := pd_callB call_abs dAbs_ok hg hm bt_abs ha (by decide) (by decide) he hpl
theorem pd_max (hc : X.calm = true) (hm : X.mg "max" = none) (ha : PDA X (a :: es) eas) (hg : Gl X "max" := by rfl) (he : starEach (a :: es) X.env = (false, eval a X.env) :: starEach es X.env := by rfl) (hpl : (backTo pos (starEach es X.env)).any (·.1) = false := by rfl) :
    PD X (.Call (.Name "max" p) (a :: es) [] pos) (evCall dMax eas) := pd_callB (call_max2 hc) dMax_ok hg hm bt_max ha (by decide) (by decide) he hpl
theorem pd_min (hc : X.calm = true) (hm : X.mg "min" = none) (ha : PDA X (a :: es) eas) (hg : Gl X "min" := by rfl) (he : starEach (a :: es) X.env = (false, eval a X.env) :: starEach es X.env := by rfl) (hpl : (backTo pos (starEach es X.env)).any (·.1) = false := by rfl) :
    PD X (.Call (.Name "min" p) (a :: es) [] pos) (evCall dMin eas) := pd_callB (call_min2 hc) dMin_ok hg hm bt_min ha (by decide) (by decide) he hpl
theorem pd_divmod (hm : X.mg "divmod" = none) (ha : PDA X (a :: es) eas) (hg : Gl X "divmod" := by rfl) (he : starEach (a :: es) X.env = (false, eval a X.env) :: starEach es X.env := by rfl) (hpl : (backTo pos (starEach es X.env)).any (·.1) = false := by rfl) :
    PD X (.Call (.Name "divmod" p) (a :: es) [] pos) (evCall dDivmod eas) := pd_callB call_divmod dDivmod_ok hg hm bt_divmod ha (by decide) (by decide) he hpl
theorem pd_int_ (hm : X.mg "int" = none) (ha : PDA X (a :: es) eas) (hg : Gl X "int" := by rfl) (he : starEach (a :: es) X.env = (false, eval a X.env) :: starEach es X.env := by rfl) (hpl : (backTo pos (starEach es X.env)).any (·.1) = false := by rfl) :
    PD X (.Call (.Name "int" p) (a :: es) [] pos) (evCall dInt eas) := pd_callTy callInt dInt_ok hg hm bt_int ha (by decide) (by decide) he hpl
theorem pd_str_ (hm : X.mg "str" = none) (ha : PDA X (a :: es) eas) (hg : Gl X "str" := by rfl) (he : starEach (a :: es) X.env = (false, eval a X.env) :: starEach es X.env := by rfl) (hpl : (backTo pos (starEach es X.env)).any (·.1) = false := by rfl) :
    PD X (.Call (.Name "str" p) (a :: es) [] pos) (evCall dStr eas) := pd_callTy call_str_int dStr_ok hg hm bt_str ha (by decide) (by decide) he hpl
theorem pd_tuple_ (hm : X.mg "tuple" = none) (ha : PDA X (a :: es) eas) (hg : Gl X "tuple" := by rfl) (he : starEach (a :: es) X.env = (false, eval a X.env) :: starEach es X.env := by rfl) (hpl : (backTo pos (starEach es X.env)).any (·.1) = false := by rfl) :
    PD X (.Call (.Name "tuple" p) (a :: es) [] pos) (evCall dTuple eas) := pd_callTy call_tuple_of dTuple_ok hg hm bt_tuple ha (by decide) (by decide) he hpl
theorem pd_list_ (hm : X.mg "list" = none) (ha : PDA X (a :: es) eas) (hg : Gl X "list" := by rfl) (he : starEach (a :: es) X.env = (false, eval a X.env) :: starEach es X.env := by rfl) (hpl : (backTo pos (starEach es X.env)).any (·.1) = false := by rfl) :
    PD X (.Call (.Name "list" p) (a :: es) [] pos) (evCall dList eas) := pd_callTy call_list_of dList_ok hg hm bt_list ha (by decide) (by decide) he hpl
end
end PDL
set_option Elab.async false
set_option linter.all false
set_option maxRecDepth 100000
/-! PD7: words for printed texts. -/
namespace PDL
open PySem PySem.Spec PyProof.Rows L2
theorem u65 {k : Nat} {A : Around} (r : Room k A) : A.units + 65 < cLine := by have := r.un; omega
theorem u1 {k : Nat} {A : Around} (r : Room k A) : A.units + 1 < cLine := by have := r.un; omega
def ReplF (mg : Str → Option Value) (A B y z : Str) : Prop := ∃ t u : Tok, mg A = some (.str y t) ∧ mg B = some (.str z u) ∧ t ≠ 0 ∧ u ≠ 0 ∧ t ≠ u
def dAddI : D → D → Store → Option (D × Store)
  | .int i, .int j, μ => some (.int (i + j), μ)
  | _, _, _ => none
theorem dAddI_ok {K : PySem.W.Frag} : OpD K (rI0 fun i j => .int (i + j)) dAddI := by
  intro φ H μ dx dy x y d μ' Q hS r1 r2 e k
  unfold dAddI at e
  split at e
  · cases e; cases r1; cases r2
    exact ⟨_, _, rfl, rfl, k _ φ H (Bh.refl hS) (.int _)⟩
  · cases e
section
variable {X : Cx} {pos p pA pB apos : Pos} {x A B : Str} {d : D} {ev : Ev} {e o : Expr} {tab : List (Str × D)} {y z : Str} {tg : Expr}
theorem gC (h : ∃ u, X.mg x = some u ∧ Lit X.K d u) (hg : Gl X x := by rfl) (hd : (x == ("__debug__" : Str)) = false := by decide) : PD X (.Name x pos) (evC d) := by
  obtain ⟨u, h1, h2⟩ := h
  exact pd_glob hg h1 h2 hd
theorem tyE {n : String} (hm : X.mg x = none) (hv : bootBuiltins x = some (.type n)) (hg : Gl X x := by rfl) (hn : x ≠ "__name__" := by decide) (hd : (x == ("__debug__" : Str)) = false := by decide) : PE X (.Name x pos) (tC (.ty n)) := pe_bltn hg hm hv rfl hn hd
theorem tIn (T : ∃ ad, X.mg x = some (.ref ad) ∧ KTab X.K X.w ad tab) (he : PD X e ev) (hg : Gl X x := by rfl) (hd : (x == ("__debug__" : Str)) = false := by decide) (hb : behindInMarks .In (.Name x p) = false := by rfl) : PDT X (.Compare e [.In] [.Name x p] pos) (evTKIn false tab ev) := by
  obtain ⟨ad, h1, h2⟩ := T
  exact pdt_inK h2 hg h1 he hd hb
theorem tInN (T : ∃ ad, X.mg x = some (.ref ad) ∧ KTab X.K X.w ad tab) (he : PD X e ev) (hg : Gl X x := by rfl) (hd : (x == ("__debug__" : Str)) = false := by decide) (hb : behindInMarks .NotIn (.Name x p) = false := by rfl) : PDT X (.Compare e [.NotIn] [.Name x p] pos) (evTKIn true tab ev) := by
  obtain ⟨ad, h1, h2⟩ := T
  exact pdt_notInK h2 hg h1 he hd hb
theorem xK (T : ∃ ad, X.mg x = some (.ref ad) ∧ KTab X.K X.w ad tab) (he : PD X e ev) (hg : Gl X x := by rfl) (hs : PlainIx e := by intro _ _; rfl) (hd : (x == ("__debug__" : Str)) = false := by decide) : PD X (.Subscript (.Name x p) e pos) (evKIx tab ev) := by
  obtain ⟨ad, h1, h2⟩ := T
  exact pd_ixK h2 hg h1 he hs hd
theorem iK (T : ∃ ad, X.mg x = some (.ref ad) ∧ KTab X.K X.w ad tab) (hg : Gl X x := by rfl) (hd : (x == ("__debug__" : Str)) = false := by decide) : PDI X tg (.Name x p) (eiKeys tab) := by
  obtain ⟨ad, h1, h2⟩ := T
  exact pdi_keysK h2 hg h1 hd
theorem rP (R : ReplF X.mg A B y z) (ho : PD X o ev) (hA : Gl X A := by rfl) (hB : Gl X B := by rfl) (hyz : (y == z) = false := by decide)
    (hst : starEach [.Name A pA, .Name B pB] X.env = [(false, eval (.Name A pA) X.env), (false, eval (.Name B pB) X.env)] := by rfl)
    (hbase : attributeBase o "replace" X.env (eval o X.env) = eval o X.env := by rfl) (hline : (apos.endLine == pos.line) = true := by rfl) (dA : (A == ("__debug__" : Str)) = false := by decide) (dB : (B == ("__debug__" : Str)) = false := by decide) :
    PD X (.Call (.Attribute o "replace" apos) [.Name A pA, .Name B pB] [] pos) (evRepl y z ev) := by
  obtain ⟨t, u, h1, h2, h3, h4, h5⟩ := R
  exact pd_repl ho hA hB h1 h2 h3 h4 h5 hyz hst hbase hline dA dB
end
end PDL
set_option Elab.async false
set_option linter.all false
set_option maxRecDepth 100000
/-! facts, evaluators: printed by gen.py -/
namespace K73
open PySem PySem.Spec PyProof.Rows L2 PDL
abbrev top (i : Nat) : Stmt := PySem.Challenge.pw_onlychanged_k73_whole_journals_cut_and_s.main.body.getD i (.Pass ⟨0, 0, 0, 0⟩)
abbrev s__law_pot : Stmt := top 92
abbrev s__law_draw : Stmt := top 93
abbrev s__law_pick : Stmt := top 94
abbrev s__law_text : Stmt := top 96
abbrev s__law_data : Stmt := top 95
abbrev s__law_records : Stmt := top 97
abbrev s_is_integer : Stmt := top 6
abbrev s_is_count : Stmt := top 7
abbrev s_is_number : Stmt := top 72
abbrev s_is_row : Stmt := top 8
abbrev s_is_text : Stmt := top 71
abbrev s_has_signs : Stmt := top 19
abbrev s_is_input_name : Stmt := top 21
abbrev s_is_int : Stmt := top 18
abbrev s_is_name : Stmt := top 20
abbrev s_are_two_names : Stmt := top 45
abbrev s_is_sign : Stmt := top 22
abbrev s_is_node : Stmt := top 46
abbrev s_children_of : Stmt := top 47
abbrev s_is_within : Stmt := top 48
abbrev s_is_data_of : Stmt := top 49
abbrev s_is_telling_of : Stmt := top 66
abbrev s_is_record_of : Stmt := top 73
abbrev s_word_of : Stmt := top 67
abbrev s_parts_of : Stmt := top 78
abbrev s_sum_of_signs : Stmt := top 77
abbrev s_line_of : Stmt := top 79
abbrev s_record_line : Stmt := top 88
abbrev s_can_follow : Stmt := top 74
abbrev s_follows : Stmt := top 75
abbrev s_are_records_of : Stmt := top 76
abbrev s_journal_of : Stmt := top 83
abbrev s_journal_text : Stmt := top 89
abbrev s_int_from : Stmt := top 68
abbrev s_telling_from : Stmt := top 69
abbrev s_telling_by : Stmt := top 70
abbrev s_number_by : Stmt := top 80
abbrev s_record_by : Stmt := top 81
abbrev s_record_in : Stmt := top 82
abbrev s_read_of : Stmt := top 84
abbrev s_want_journal : Stmt := top 85
abbrev s_read_journal : Stmt := top 90
abbrev s_are_records : Stmt := top 86
abbrev s__law_is_right : Stmt := top 98
abbrev s_sum_of : Stmt := top 87
abbrev s_law : Stmt := top 99
def tab_LONG : List (Str × D) := [("int", (.int (2))), ("bool", (.int (2))), ("unit", (.int (1))), ("nil", (.int (1))), ("var", (.int (2))), ("fn", (.int (3))), ("call", (.int (3))), ("let", (.int (4))), ("rec", (.int (5))), ("if", (.int (4))), ("op", (.int (4))), ("pair", (.int (3))), ("first", (.int (2))), ("second", (.int (2))), ("cons", (.int (3))), ("match", (.int (6))), ("read", (.int (3)))]
def tab_CHILDREN : List (Str × D) := [("int", (.tup [])), ("bool", (.tup [])), ("unit", (.tup [])), ("nil", (.tup [])), ("var", (.tup [])), ("fn", (.tup [(.int (2))])), ("call", (.tup [(.int (1)), (.int (2))])), ("let", (.tup [(.int (2)), (.int (3))])), ("rec", (.tup [(.int (3)), (.int (4))])), ("if", (.tup [(.int (1)), (.int (2)), (.int (3))])), ("op", (.tup [(.int (2)), (.int (3))])), ("pair", (.tup [(.int (1)), (.int (2))])), ("first", (.tup [(.int (1))])), ("second", (.tup [(.int (1))])), ("cons", (.tup [(.int (1)), (.int (2))])), ("match", (.tup [(.int (1)), (.int (2)), (.int (5))])), ("read", (.tup [(.int (2))]))]
def tab_PLAIN : List (Str × D) := [("t", (.tup [(.str "bool"), (.bl true)])), ("f", (.tup [(.str "bool"), (.bl false)])), ("u", (.tup [(.str "unit")])), ("n", (.tup [(.str "nil")])), ("F", (.tup [(.str "fun")]))]
def tab_DOUBLE : List (Str × D) := [("p", (.str "pair")), ("c", (.str "cons"))]
structure MF (w : World) (K : PySem.W.Frag) (mg : Str → Option Value) : Prop where
  c_MOST_COUNT : ∃ u, mg "MOST_COUNT" = some u ∧ Lit K (.int (1000000000000)) u
  c_PROGRAM : ∃ u, mg "PROGRAM" = some u ∧ Lit K (.str "program") u
  c_INPUTS : ∃ u, mg "INPUTS" = some u ∧ Lit K (.str "inputs") u
  c_SET : ∃ u, mg "SET" = some u ∧ Lit K (.str "set") u
  c_TOLD : ∃ u, mg "TOLD" = some u ∧ Lit K (.str "told") u
  c_KEPT : ∃ u, mg "KEPT" = some u ∧ Lit K (.str "kept") u
  c_MOST_TEXT : ∃ u, mg "MOST_TEXT" = some u ∧ Lit K (.int (20000)) u
  c_FEED : ∃ u, mg "FEED" = some u ∧ Lit K (.str "\n") u
  c_MARK : ∃ u, mg "MARK" = some u ∧ Lit K (.str "\\") u
  c_GREAT : ∃ u, mg "GREAT" = some u ∧ Lit K (.str "ABCDEFGHIJKLMNOPQRSTUVWXYZ") u
  c_SMALL : ∃ u, mg "SMALL" = some u ∧ Lit K (.str "abcdefghijklmnopqrstuvwxyz") u
  c_FIGURES : ∃ u, mg "FIGURES" = some u ∧ Lit K (.str "0123456789") u
  c_MOST_SIGNS_words : ∃ u, mg "MOST_SIGNS_words" = some u ∧ Lit K (.int (12)) u
  c_MOST_DATA_NODES : ∃ u, mg "MOST_DATA_NODES" = some u ∧ Lit K (.int (2000)) u
  c_MOST_DATA_DEEP : ∃ u, mg "MOST_DATA_DEEP" = some u ∧ Lit K (.int (60)) u
  c_INT : ∃ u, mg "INT" = some u ∧ Lit K (.str "int") u
  c_BOOL : ∃ u, mg "BOOL" = some u ∧ Lit K (.str "bool") u
  c_UNIT : ∃ u, mg "UNIT" = some u ∧ Lit K (.str "unit") u
  c_NIL : ∃ u, mg "NIL" = some u ∧ Lit K (.str "nil") u
  c_PAIR : ∃ u, mg "PAIR" = some u ∧ Lit K (.str "pair") u
  c_CONS : ∃ u, mg "CONS" = some u ∧ Lit K (.str "cons") u
  c_VAR : ∃ u, mg "VAR" = some u ∧ Lit K (.str "var") u
  c_FN : ∃ u, mg "FN" = some u ∧ Lit K (.str "fn") u
  c_LET : ∃ u, mg "LET" = some u ∧ Lit K (.str "let") u
  c_REC : ∃ u, mg "REC" = some u ∧ Lit K (.str "rec") u
  c_OP : ∃ u, mg "OP" = some u ∧ Lit K (.str "op") u
  c_MATCH : ∃ u, mg "MATCH" = some u ∧ Lit K (.str "match") u
  c_READ : ∃ u, mg "READ" = some u ∧ Lit K (.str "read") u
  c_LEAST_INT : ∃ u, mg "LEAST_INT" = some u ∧ Lit K (.int (-2147483648)) u
  c_MOST_INT : ∃ u, mg "MOST_INT" = some u ∧ Lit K (.int (2147483647)) u
  c_RESERVED : ∃ u, mg "RESERVED" = some u ∧ Lit K (.tup [(.str "do"), (.str "else"), (.str "end"), (.str "false"), (.str "fn"), (.str "fst"), (.str "if"), (.str "in"), (.str "input"), (.str "let"), (.str "match"), (.str "module"), (.str "read"), (.str "rec"), (.str "snd"), (.str "then"), (.str "true"), (.str "use"), (.str "with"), (.str "int"), (.str "bool"), (.str "unit")]) u
  c_SIGNS : ∃ u, mg "SIGNS" = some u ∧ Lit K (.tup [(.str "+"), (.str "-"), (.str "*"), (.str "<"), (.str "=")]) u
  c_MOST_DEEP : ∃ u, mg "MOST_DEEP" = some u ∧ Lit K (.int (60)) u
  c_FUN : ∃ u, mg "FUN" = some u ∧ Lit K (.str "fun") u
  c_UNDER : ∃ u, mg "UNDER" = some u ∧ Lit K (.int (9973)) u
  c_MOST_SIGNS_journals : ∃ u, mg "MOST_SIGNS_journals" = some u ∧ Lit K (.int (200000)) u
  t_LONG : ∃ ad, mg "LONG" = some (.ref ad) ∧ KTab K w ad tab_LONG
  t_CHILDREN : ∃ ad, mg "CHILDREN" = some (.ref ad) ∧ KTab K w ad tab_CHILDREN
  t_PLAIN : ∃ ad, mg "PLAIN" = some (.ref ad) ∧ KTab K w ad tab_PLAIN
  t_DOUBLE : ∃ ad, mg "DOUBLE" = some (.ref ad) ∧ KTab K w ad tab_DOUBLE
  r_FEED_MARK : ReplF mg "FEED" "MARK" "\n" "\\"
  r_MARK_FEED : ReplF mg "MARK" "FEED" "\\" "\n"
  n_enumerate : mg "enumerate" = none
  n_len : mg "len" = none
  n_range : mg "range" = none
  n_min : mg "min" = none
  n_abs : mg "abs" = none
  n_max : mg "max" = none
  n_int : mg "int" = none
  n_divmod : mg "divmod" = none
  n_isinstance : mg "isinstance" = none
  n_bool : mg "bool" = none
  n_tuple : mg "tuple" = none
  n_str : mg "str" = none
  n_all : mg "all" = none
  n_ord : mg "ord" = none
  n_list : mg "list" = none
  f__law_pot : Df K mg "_law_pot" s__law_pot
  f__law_draw : Df K mg "_law_draw" s__law_draw
  f__law_pick : Df K mg "_law_pick" s__law_pick
  f__law_text : Df K mg "_law_text" s__law_text
  f__law_data : Df K mg "_law_data" s__law_data
  f__law_records : Df K mg "_law_records" s__law_records
  f_is_integer : Df K mg "is_integer" s_is_integer
  f_is_count : Df K mg "is_count" s_is_count
  f_is_number : Df K mg "is_number" s_is_number
  f_is_row : Df K mg "is_row" s_is_row
  f_is_text : Df K mg "is_text" s_is_text
  f_has_signs : Df K mg "has_signs" s_has_signs
  f_is_input_name : Df K mg "is_input_name" s_is_input_name
  f_is_int : Df K mg "is_int" s_is_int
  f_is_name : Df K mg "is_name" s_is_name
  f_are_two_names : Df K mg "are_two_names" s_are_two_names
  f_is_sign : Df K mg "is_sign" s_is_sign
  f_is_node : Df K mg "is_node" s_is_node
  f_children_of : Df K mg "children_of" s_children_of
  f_is_within : Df K mg "is_within" s_is_within
  f_is_data_of : Df K mg "is_data_of" s_is_data_of
  f_is_telling_of : Df K mg "is_telling_of" s_is_telling_of
  f_is_record_of : Df K mg "is_record_of" s_is_record_of
  f_word_of : Df K mg "word_of" s_word_of
  f_parts_of : Df K mg "parts_of" s_parts_of
  f_sum_of_signs : Df K mg "sum_of_signs" s_sum_of_signs
  f_line_of : Df K mg "line_of" s_line_of
  f_record_line : Df K mg "record_line" s_record_line
  f_can_follow : Df K mg "can_follow" s_can_follow
  f_follows : Df K mg "follows" s_follows
  f_are_records_of : Df K mg "are_records_of" s_are_records_of
  f_journal_of : Df K mg "journal_of" s_journal_of
  f_journal_text : Df K mg "journal_text" s_journal_text
  f_int_from : Df K mg "int_from" s_int_from
  f_telling_from : Df K mg "telling_from" s_telling_from
  f_telling_by : Df K mg "telling_by" s_telling_by
  f_number_by : Df K mg "number_by" s_number_by
  f_record_by : Df K mg "record_by" s_record_by
  f_record_in : Df K mg "record_in" s_record_in
  f_read_of : Df K mg "read_of" s_read_of
  f_want_journal : Df K mg "want_journal" s_want_journal
  f_read_journal : Df K mg "read_journal" s_read_journal
  f_are_records : Df K mg "are_records" s_are_records
  f__law_is_right : Df K mg "_law_is_right" s__law_is_right
  f_sum_of : Df K mg "sum_of" s_sum_of
  f_law : Df K mg "law" s_law
end K73
set_option Elab.async false
set_option linter.all false
set_option maxRecDepth 100000
/-! HX: constants and tables of a head, as Bools over K -/
namespace HX
open PySem PySem.Spec PyProof.Rows L2 PDL
mutual
def litB (K : PySem.W.Frag) : D → Value → Bool
  | .non, u => He.relB .non u
  | .bl b, u => He.relB (.bl b) u
  | .int i, u => He.relB (.int i) u
  | .str x, u => He.relB (.str x) u
  | .ty n, u => He.relB (.ty n) u
  | .tup ds, u => match u with
    | .ref a => (match K.lookup a with
      | some ⟨.type c, _, .seq its _, _⟩ => decide (c = "tuple") && (decide (its.size ≤ sizeLine) && litsB K ds its.toList)
      | _ => false)
    | _ => false
  | _, _ => false
def litsB (K : PySem.W.Frag) : List D → List Value → Bool
  | [], us => us.isEmpty
  | d :: ds, us => match us with
    | [] => false
    | u :: r => litB K d u && litsB K ds r
end
mutual
theorem litB_ok {K : PySem.W.Frag} : ∀ (d : D) (u : Value), litB K d u = true → Lit K d u
  | .non, u, h => ⟨_, He.relB_ok (v := .non) (by rw [litB] at h; exact h), fun _ _ => .non⟩
  | .bl b, u, h => ⟨_, He.relB_ok (v := .bl b) (by rw [litB] at h; exact h), fun _ _ => .bl b⟩
  | .int i, u, h => ⟨_, He.relB_ok (v := .int i) (by rw [litB] at h; exact h), fun _ _ => .int i⟩
  | .str x, u, h => ⟨_, He.relB_ok (v := .str x) (by rw [litB] at h; exact h), fun _ _ => .str x⟩
  | .ty n, u, h => ⟨_, He.relB_ok (v := .ty n) (by rw [litB] at h; exact h), fun _ _ => .ty n⟩
  | .tup ds, u, h => by
    cases u with
    | ref a =>
      have h1 : (match K.lookup a with
        | some ⟨.type c, _, .seq its _, _⟩ => decide (c = "tuple") && (decide (its.size ≤ sizeLine) && litsB K ds its.toList)
        | _ => false) = true := by rw [litB] at h; exact h
      cases q : K.lookup a with
      | none => rw [q] at h1; cases h1
      | some o =>
        obtain ⟨oc, od, dt, osl⟩ := o
        rw [q] at h1
        cases oc with
        | type c =>
          cases dt with
          | seq its n =>
            obtain ⟨h2, h3⟩ := He.ba (show (decide (c = "tuple") && (decide (its.size ≤ sizeLine) && litsB K ds its.toList)) = true from h1)
            obtain ⟨h4, h5⟩ := He.ba h3
            obtain ⟨vs, r1, r2⟩ := litsB_ok ds its.toList h5
            refine ⟨.ref a, rfl, fun φ H => .tup ?_ (r2 φ H)⟩
            exact .inr ⟨_, its, n, q, congrArg Value.type (of_decide_eq_true h2), rfl, of_decide_eq_true h4, r1⟩
          | _ => cases h1
        | _ => cases dt <;> cases h1
    | _ => rw [litB] at h <;> first | cases h | (intro a e; cases e)
  | .loc _, u, h => by rw [litB] at h <;> first | cases h | (intros; contradiction)
  | .kd _, u, h => by rw [litB] at h <;> first | cases h | (intros; contradiction)
  | .rl _, u, h => by rw [litB] at h <;> first | cases h | (intros; contradiction)
theorem litsB_ok {K : PySem.W.Frag} : ∀ (ds : List D) (us : List Value), litsB K ds us = true → ∃ vs, Vals vs us ∧ ∀ φ H, Reps K φ H ds vs
  | [], us, h => by
    rw [litsB] at h
    have : us = [] := List.isEmpty_iff.mp h
    subst this
    exact ⟨[], .nil, fun _ _ => .nil⟩
  | d :: ds, us, h => by
    cases us with
    | nil => rw [litsB] at h; cases h
    | cons u r =>
      have h1 : (litB K d u && litsB K ds r) = true := by rw [litsB] at h; exact h
      obtain ⟨h2, h3⟩ := He.ba h1
      obtain ⟨v, k1, k2⟩ := litB_ok d u h2
      obtain ⟨vs, k3, k4⟩ := litsB_ok ds r h3
      exact ⟨v :: vs, .cons k1 k3, fun φ H => .cons (k2 φ H) (k4 φ H)⟩
end
def conK (K : PySem.W.Frag) (x : Str) (d : D) : Bool := match PySem.W.nsIn K mainGlobals x with
  | some (some u) => litB K d u
  | _ => false
def entB (K : PySem.W.Frag) : List (Str × D) → List DictEntry → Bool
  | [], es => es.isEmpty
  | p :: r, es => match es with
    | [] => false
    | e :: q => (match e.key with
      | .str y _ => decide (y = p.1)
      | _ => false) && (litB K p.2 e.val && entB K r q)
def tabK (K : PySem.W.Frag) (x : Str) (tab : List (Str × D)) : Bool := He.eqO (PySem.W.nsIn K mainGlobals x) (some (some (.ref (He.ga K x)))) && match K.lookup (He.ga K x) with
  | some ⟨_, _, .dict es _, _⟩ => entB K tab es.toList
  | _ => false
def replK (K : PySem.W.Frag) (A B y z : Str) : Bool := match PySem.W.nsIn K mainGlobals A, PySem.W.nsIn K mainGlobals B with
  | some (some (.str a t)), some (some (.str b u)) => decide (a = y) && (decide (b = z) && (decide (t ≠ 0) && (decide (u ≠ 0) && decide (t ≠ u))))
  | _, _ => false
section
variable {w : World} {K : PySem.W.Frag} {h : Heap} {mg : Str → Option Value}
theorem con_ok (X : K.In h) (G : h.Ns mainGlobals mg) {x : Str} {d : D} (c : conK K x d = true) : ∃ u, mg x = some u ∧ Lit K d u := by
  unfold conK at c
  cases e : PySem.W.nsIn K mainGlobals x with
  | none => rw [e] at c; cases c
  | some o =>
    rw [e] at c
    cases o with
    | none => cases c
    | some u => exact ⟨u, PySem.W.mg_of X G e, litB_ok d u c⟩
theorem entB_ok : ∀ (tab : List (Str × D)) (es : List DictEntry), entB K tab es = true → Paired (fun (p : Str × D) (e : DictEntry) => (∃ t, e.key = .str p.1 t) ∧ Lit K p.2 e.val) tab es
  | [], es, h => by
    have : es = [] := List.isEmpty_iff.mp (show es.isEmpty = true from h)
    subst this
    exact .nil
  | p :: r, [], h => by cases h
  | p :: r, e :: q, h => by
    obtain ⟨h1, h2⟩ := He.ba (show ((match e.key with
      | .str y _ => decide (y = p.1)
      | _ => false) && (litB K p.2 e.val && entB K r q)) = true from h)
    obtain ⟨h3, h4⟩ := He.ba h2
    refine .cons ⟨?_, litB_ok _ _ h3⟩ (entB_ok r q h4)
    cases z : e.key with
    | str y t =>
      rw [z] at h1
      have e1 : y = p.1 := of_decide_eq_true h1
      exact ⟨t, by rw [e1]⟩
    | _ => rw [z] at h1; cases h1
theorem tab_ok (X : K.In h) (G : h.Ns mainGlobals mg) {x : Str} {tab : List (Str × D)} (c : tabK K x tab = true) (D : ∃ es n, KDict K w (He.ga K x) es n) : ∃ ad, mg x = some (.ref ad) ∧ KTab K w ad tab := by
  unfold tabK at c
  obtain ⟨c1, c2⟩ := He.ba c
  obtain ⟨es, n, D⟩ := D
  rw [D.at_] at c2
  exact ⟨_, PySem.W.mg_of X G (He.eqO_ok c1), ⟨es, n, D, entB_ok _ _ c2⟩⟩
theorem repl_ok (X : K.In h) (G : h.Ns mainGlobals mg) {A B y z : Str} (c : replK K A B y z = true) : ReplF mg A B y z := by
  unfold replK at c
  split at c
  · rename_i a t b u e1 e2
    obtain ⟨c1, c2⟩ := He.ba c
    obtain ⟨c3, c4⟩ := He.ba c2
    obtain ⟨c5, c6⟩ := He.ba c4
    obtain ⟨c7, c8⟩ := He.ba c6
    have q1 := of_decide_eq_true c1
    have q2 := of_decide_eq_true c3
    subst q1 q2
    exact ⟨t, u, PySem.W.mg_of X G e1, PySem.W.mg_of X G e2, of_decide_eq_true c5, of_decide_eq_true c7, of_decide_eq_true c8⟩
  · cases c
theorem df_ok (X : K.In h) (G : h.Ns mainGlobals mg) {x : Str} {st : Stmt} (c : (He.Fa.glo x).ok K = true) (F : ∃ fd, FunD K x x (defArgs st) (defBody st) (defScope st) [] [] (He.ga K x) fd) : Df K mg x st := by
  obtain ⟨fd, F⟩ := F
  exact ⟨_, fd, He.glo_ok X G c, F⟩
end
end HX

/-! ### k73's head: printed by mkhead.py -/
namespace K73
open PySem PySem.Spec PyProof.Rows L2 PDL HX
def dv (x : Str) (st : Stmt) : He.DefD := ⟨(x, none), x, x, defArgs st, defBody st, defScope st, [], []⟩
def fn_0 : List He.DefD := [dv "_law_pot" s__law_pot, dv "_law_draw" s__law_draw, dv "_law_pick" s__law_pick, dv "_law_text" s__law_text, dv "_law_data" s__law_data, dv "_law_records" s__law_records, dv "is_integer" s_is_integer, dv "is_count" s_is_count, dv "is_number" s_is_number, dv "is_row" s_is_row, dv "is_text" s_is_text, dv "has_signs" s_has_signs, dv "is_input_name" s_is_input_name, dv "is_int" s_is_int, dv "is_name" s_is_name, dv "are_two_names" s_are_two_names, dv "is_sign" s_is_sign, dv "is_node" s_is_node, dv "children_of" s_children_of, dv "is_within" s_is_within, dv "is_data_of" s_is_data_of, dv "is_telling_of" s_is_telling_of, dv "is_record_of" s_is_record_of, dv "word_of" s_word_of, dv "parts_of" s_parts_of, dv "sum_of_signs" s_sum_of_signs, dv "line_of" s_line_of, dv "record_line" s_record_line, dv "can_follow" s_can_follow, dv "follows" s_follows]
def fn_1 : List He.DefD := [dv "are_records_of" s_are_records_of, dv "journal_of" s_journal_of, dv "journal_text" s_journal_text, dv "int_from" s_int_from, dv "telling_from" s_telling_from, dv "telling_by" s_telling_by, dv "number_by" s_number_by, dv "record_by" s_record_by, dv "record_in" s_record_in, dv "read_of" s_read_of, dv "want_journal" s_want_journal, dv "read_journal" s_read_journal, dv "are_records" s_are_records, dv "_law_is_right" s__law_is_right, dv "sum_of" s_sum_of, dv "law" s_law]
def fn_ : List He.DefD := fn_0 ++ (fn_1)
def fa_0 : List He.Fa := [.free "enumerate", .free "len", .free "range", .free "min", .free "abs", .free "max", .free "int", .free "divmod", .free "isinstance", .free "bool", .free "tuple", .free "str", .free "all", .free "ord", .free "list", .glo "_law_pot", .glo "_law_draw", .glo "_law_pick", .glo "_law_text", .glo "_law_data", .glo "_law_records", .glo "is_integer", .glo "is_count", .glo "is_number", .glo "is_row", .glo "is_text", .glo "has_signs", .glo "is_input_name", .glo "is_int", .glo "is_name"]
def fa_1 : List He.Fa := [.glo "are_two_names", .glo "is_sign", .glo "is_node", .glo "children_of", .glo "is_within", .glo "is_data_of", .glo "is_telling_of", .glo "is_record_of", .glo "word_of", .glo "parts_of", .glo "sum_of_signs", .glo "line_of", .glo "record_line", .glo "can_follow", .glo "follows", .glo "are_records_of", .glo "journal_of", .glo "journal_text", .glo "int_from", .glo "telling_from", .glo "telling_by", .glo "number_by", .glo "record_by", .glo "record_in", .glo "read_of", .glo "want_journal", .glo "read_journal", .glo "are_records", .glo "_law_is_right", .glo "sum_of"]
def fa_2 : List He.Fa := [.glo "law"]
def fa_ : List He.Fa := fa_0 ++ (fa_1 ++ (fa_2))
def ts_0 : List He.Tab := [(fun K => He.ga K "LONG", tab_LONG.map fun p => p.1), (fun K => He.ga K "CHILDREN", tab_CHILDREN.map fun p => p.1), (fun K => He.ga K "PLAIN", tab_PLAIN.map fun p => p.1), (fun K => He.ga K "DOUBLE", tab_DOUBLE.map fun p => p.1)]
def ts_ : List He.Tab := ts_0
def exL0 (K : PySem.W.Frag) : List Bool := [conK K "MOST_COUNT" (.int (1000000000000)), conK K "PROGRAM" (.str "program"), conK K "INPUTS" (.str "inputs"), conK K "SET" (.str "set"), conK K "TOLD" (.str "told"), conK K "KEPT" (.str "kept"), conK K "MOST_TEXT" (.int (20000)), conK K "FEED" (.str "\n"), conK K "MARK" (.str "\\"), conK K "GREAT" (.str "ABCDEFGHIJKLMNOPQRSTUVWXYZ"), conK K "SMALL" (.str "abcdefghijklmnopqrstuvwxyz"), conK K "FIGURES" (.str "0123456789"), conK K "MOST_SIGNS_words" (.int (12)), conK K "MOST_DATA_NODES" (.int (2000)), conK K "MOST_DATA_DEEP" (.int (60)), conK K "INT" (.str "int"), conK K "BOOL" (.str "bool"), conK K "UNIT" (.str "unit"), conK K "NIL" (.str "nil"), conK K "PAIR" (.str "pair"), conK K "CONS" (.str "cons"), conK K "VAR" (.str "var"), conK K "FN" (.str "fn"), conK K "LET" (.str "let"), conK K "REC" (.str "rec"), conK K "OP" (.str "op"), conK K "MATCH" (.str "match"), conK K "READ" (.str "read"), conK K "LEAST_INT" (.int (-2147483648)), conK K "MOST_INT" (.int (2147483647))]
def exL1 (K : PySem.W.Frag) : List Bool := [conK K "RESERVED" (.tup [(.str "do"), (.str "else"), (.str "end"), (.str "false"), (.str "fn"), (.str "fst"), (.str "if"), (.str "in"), (.str "input"), (.str "let"), (.str "match"), (.str "module"), (.str "read"), (.str "rec"), (.str "snd"), (.str "then"), (.str "true"), (.str "use"), (.str "with"), (.str "int"), (.str "bool"), (.str "unit")]), conK K "SIGNS" (.tup [(.str "+"), (.str "-"), (.str "*"), (.str "<"), (.str "=")]), conK K "MOST_DEEP" (.int (60)), conK K "FUN" (.str "fun"), conK K "UNDER" (.int (9973)), conK K "MOST_SIGNS_journals" (.int (200000)), tabK K "LONG" tab_LONG, tabK K "CHILDREN" tab_CHILDREN, tabK K "PLAIN" tab_PLAIN, tabK K "DOUBLE" tab_DOUBLE, replK K "FEED" "MARK" "\n" "\\", replK K "MARK" "FEED" "\\" "\n"]
def exL (K : PySem.W.Frag) : List Bool := exL0 K ++ (exL1 K)
def ex_ (K : PySem.W.Frag) : Bool := (exL K).all id
theorem ex_at {K : PySem.W.Frag} (h : ex_ K = true) (i : Nat) {b : Bool} (e : (exL K)[i]? = some b) : b = true := List.all_eq_true.mp h b (List.mem_of_getElem? e)
theorem mf_of {w : World} {K : PySem.W.Frag} {h hs : Heap} {mg : Str → Option Value} (X : K.In h) (G : h.Ns mainGlobals mg) (c : He.SaysX fa_ fn_ ts_ [] ex_ w hs K) : MF w K mg :=
  ⟨con_ok X G (ex_at c.more 0 (b := conK K "MOST_COUNT" (.int (1000000000000))) rfl),
   con_ok X G (ex_at c.more 1 (b := conK K "PROGRAM" (.str "program")) rfl),
   con_ok X G (ex_at c.more 2 (b := conK K "INPUTS" (.str "inputs")) rfl),
   con_ok X G (ex_at c.more 3 (b := conK K "SET" (.str "set")) rfl),
   con_ok X G (ex_at c.more 4 (b := conK K "TOLD" (.str "told")) rfl),
   con_ok X G (ex_at c.more 5 (b := conK K "KEPT" (.str "kept")) rfl),
   con_ok X G (ex_at c.more 6 (b := conK K "MOST_TEXT" (.int (20000))) rfl),
   con_ok X G (ex_at c.more 7 (b := conK K "FEED" (.str "\n")) rfl),
   con_ok X G (ex_at c.more 8 (b := conK K "MARK" (.str "\\")) rfl),
   con_ok X G (ex_at c.more 9 (b := conK K "GREAT" (.str "ABCDEFGHIJKLMNOPQRSTUVWXYZ")) rfl),
   con_ok X G (ex_at c.more 10 (b := conK K "SMALL" (.str "abcdefghijklmnopqrstuvwxyz")) rfl),
   con_ok X G (ex_at c.more 11 (b := conK K "FIGURES" (.str "0123456789")) rfl),
   con_ok X G (ex_at c.more 12 (b := conK K "MOST_SIGNS_words" (.int (12))) rfl),
   con_ok X G (ex_at c.more 13 (b := conK K "MOST_DATA_NODES" (.int (2000))) rfl),
   con_ok X G (ex_at c.more 14 (b := conK K "MOST_DATA_DEEP" (.int (60))) rfl),
   con_ok X G (ex_at c.more 15 (b := conK K "INT" (.str "int")) rfl),
   con_ok X G (ex_at c.more 16 (b := conK K "BOOL" (.str "bool")) rfl),
   con_ok X G (ex_at c.more 17 (b := conK K "UNIT" (.str "unit")) rfl),
   con_ok X G (ex_at c.more 18 (b := conK K "NIL" (.str "nil")) rfl),
   con_ok X G (ex_at c.more 19 (b := conK K "PAIR" (.str "pair")) rfl),
   con_ok X G (ex_at c.more 20 (b := conK K "CONS" (.str "cons")) rfl),
   con_ok X G (ex_at c.more 21 (b := conK K "VAR" (.str "var")) rfl),
   con_ok X G (ex_at c.more 22 (b := conK K "FN" (.str "fn")) rfl),
   con_ok X G (ex_at c.more 23 (b := conK K "LET" (.str "let")) rfl),
   con_ok X G (ex_at c.more 24 (b := conK K "REC" (.str "rec")) rfl),
   con_ok X G (ex_at c.more 25 (b := conK K "OP" (.str "op")) rfl),
   con_ok X G (ex_at c.more 26 (b := conK K "MATCH" (.str "match")) rfl),
   con_ok X G (ex_at c.more 27 (b := conK K "READ" (.str "read")) rfl),
   con_ok X G (ex_at c.more 28 (b := conK K "LEAST_INT" (.int (-2147483648))) rfl),
   con_ok X G (ex_at c.more 29 (b := conK K "MOST_INT" (.int (2147483647))) rfl),
   con_ok X G (ex_at c.more 30 (b := conK K "RESERVED" (.tup [(.str "do"), (.str "else"), (.str "end"), (.str "false"), (.str "fn"), (.str "fst"), (.str "if"), (.str "in"), (.str "input"), (.str "let"), (.str "match"), (.str "module"), (.str "read"), (.str "rec"), (.str "snd"), (.str "then"), (.str "true"), (.str "use"), (.str "with"), (.str "int"), (.str "bool"), (.str "unit")])) rfl),
   con_ok X G (ex_at c.more 31 (b := conK K "SIGNS" (.tup [(.str "+"), (.str "-"), (.str "*"), (.str "<"), (.str "=")])) rfl),
   con_ok X G (ex_at c.more 32 (b := conK K "MOST_DEEP" (.int (60))) rfl),
   con_ok X G (ex_at c.more 33 (b := conK K "FUN" (.str "fun")) rfl),
   con_ok X G (ex_at c.more 34 (b := conK K "UNDER" (.int (9973))) rfl),
   con_ok X G (ex_at c.more 35 (b := conK K "MOST_SIGNS_journals" (.int (200000))) rfl),
   tab_ok X G (ex_at c.more 36 (b := tabK K "LONG" tab_LONG) rfl) (c.t.tab 0),
   tab_ok X G (ex_at c.more 37 (b := tabK K "CHILDREN" tab_CHILDREN) rfl) (c.t.tab 1),
   tab_ok X G (ex_at c.more 38 (b := tabK K "PLAIN" tab_PLAIN) rfl) (c.t.tab 2),
   tab_ok X G (ex_at c.more 39 (b := tabK K "DOUBLE" tab_DOUBLE) rfl) (c.t.tab 3),
   repl_ok X G (ex_at c.more 40 (b := replK K "FEED" "MARK" "\n" "\\") rfl),
   repl_ok X G (ex_at c.more 41 (b := replK K "MARK" "FEED" "\\" "\n") rfl),
   He.free_ok X G (c.t.d.fact 0 (f := .free "enumerate") rfl),
   He.free_ok X G (c.t.d.fact 1 (f := .free "len") rfl),
   He.free_ok X G (c.t.d.fact 2 (f := .free "range") rfl),
   He.free_ok X G (c.t.d.fact 3 (f := .free "min") rfl),
   He.free_ok X G (c.t.d.fact 4 (f := .free "abs") rfl),
   He.free_ok X G (c.t.d.fact 5 (f := .free "max") rfl),
   He.free_ok X G (c.t.d.fact 6 (f := .free "int") rfl),
   He.free_ok X G (c.t.d.fact 7 (f := .free "divmod") rfl),
   He.free_ok X G (c.t.d.fact 8 (f := .free "isinstance") rfl),
   He.free_ok X G (c.t.d.fact 9 (f := .free "bool") rfl),
   He.free_ok X G (c.t.d.fact 10 (f := .free "tuple") rfl),
   He.free_ok X G (c.t.d.fact 11 (f := .free "str") rfl),
   He.free_ok X G (c.t.d.fact 12 (f := .free "all") rfl),
   He.free_ok X G (c.t.d.fact 13 (f := .free "ord") rfl),
   He.free_ok X G (c.t.d.fact 14 (f := .free "list") rfl),
   df_ok X G (c.t.d.fact 15 (f := .glo "_law_pot") rfl) (c.t.d.def_ 0 (d := dv "_law_pot" s__law_pot) rfl),
   df_ok X G (c.t.d.fact 16 (f := .glo "_law_draw") rfl) (c.t.d.def_ 1 (d := dv "_law_draw" s__law_draw) rfl),
   df_ok X G (c.t.d.fact 17 (f := .glo "_law_pick") rfl) (c.t.d.def_ 2 (d := dv "_law_pick" s__law_pick) rfl),
   df_ok X G (c.t.d.fact 18 (f := .glo "_law_text") rfl) (c.t.d.def_ 3 (d := dv "_law_text" s__law_text) rfl),
   df_ok X G (c.t.d.fact 19 (f := .glo "_law_data") rfl) (c.t.d.def_ 4 (d := dv "_law_data" s__law_data) rfl),
   df_ok X G (c.t.d.fact 20 (f := .glo "_law_records") rfl) (c.t.d.def_ 5 (d := dv "_law_records" s__law_records) rfl),
   df_ok X G (c.t.d.fact 21 (f := .glo "is_integer") rfl) (c.t.d.def_ 6 (d := dv "is_integer" s_is_integer) rfl),
   df_ok X G (c.t.d.fact 22 (f := .glo "is_count") rfl) (c.t.d.def_ 7 (d := dv "is_count" s_is_count) rfl),
   df_ok X G (c.t.d.fact 23 (f := .glo "is_number") rfl) (c.t.d.def_ 8 (d := dv "is_number" s_is_number) rfl),
   df_ok X G (c.t.d.fact 24 (f := .glo "is_row") rfl) (c.t.d.def_ 9 (d := dv "is_row" s_is_row) rfl),
   df_ok X G (c.t.d.fact 25 (f := .glo "is_text") rfl) (c.t.d.def_ 10 (d := dv "is_text" s_is_text) rfl),
   df_ok X G (c.t.d.fact 26 (f := .glo "has_signs") rfl) (c.t.d.def_ 11 (d := dv "has_signs" s_has_signs) rfl),
   df_ok X G (c.t.d.fact 27 (f := .glo "is_input_name") rfl) (c.t.d.def_ 12 (d := dv "is_input_name" s_is_input_name) rfl),
   df_ok X G (c.t.d.fact 28 (f := .glo "is_int") rfl) (c.t.d.def_ 13 (d := dv "is_int" s_is_int) rfl),
   df_ok X G (c.t.d.fact 29 (f := .glo "is_name") rfl) (c.t.d.def_ 14 (d := dv "is_name" s_is_name) rfl),
   df_ok X G (c.t.d.fact 30 (f := .glo "are_two_names") rfl) (c.t.d.def_ 15 (d := dv "are_two_names" s_are_two_names) rfl),
   df_ok X G (c.t.d.fact 31 (f := .glo "is_sign") rfl) (c.t.d.def_ 16 (d := dv "is_sign" s_is_sign) rfl),
   df_ok X G (c.t.d.fact 32 (f := .glo "is_node") rfl) (c.t.d.def_ 17 (d := dv "is_node" s_is_node) rfl),
   df_ok X G (c.t.d.fact 33 (f := .glo "children_of") rfl) (c.t.d.def_ 18 (d := dv "children_of" s_children_of) rfl),
   df_ok X G (c.t.d.fact 34 (f := .glo "is_within") rfl) (c.t.d.def_ 19 (d := dv "is_within" s_is_within) rfl),
   df_ok X G (c.t.d.fact 35 (f := .glo "is_data_of") rfl) (c.t.d.def_ 20 (d := dv "is_data_of" s_is_data_of) rfl),
   df_ok X G (c.t.d.fact 36 (f := .glo "is_telling_of") rfl) (c.t.d.def_ 21 (d := dv "is_telling_of" s_is_telling_of) rfl),
   df_ok X G (c.t.d.fact 37 (f := .glo "is_record_of") rfl) (c.t.d.def_ 22 (d := dv "is_record_of" s_is_record_of) rfl),
   df_ok X G (c.t.d.fact 38 (f := .glo "word_of") rfl) (c.t.d.def_ 23 (d := dv "word_of" s_word_of) rfl),
   df_ok X G (c.t.d.fact 39 (f := .glo "parts_of") rfl) (c.t.d.def_ 24 (d := dv "parts_of" s_parts_of) rfl),
   df_ok X G (c.t.d.fact 40 (f := .glo "sum_of_signs") rfl) (c.t.d.def_ 25 (d := dv "sum_of_signs" s_sum_of_signs) rfl),
   df_ok X G (c.t.d.fact 41 (f := .glo "line_of") rfl) (c.t.d.def_ 26 (d := dv "line_of" s_line_of) rfl),
   df_ok X G (c.t.d.fact 42 (f := .glo "record_line") rfl) (c.t.d.def_ 27 (d := dv "record_line" s_record_line) rfl),
   df_ok X G (c.t.d.fact 43 (f := .glo "can_follow") rfl) (c.t.d.def_ 28 (d := dv "can_follow" s_can_follow) rfl),
   df_ok X G (c.t.d.fact 44 (f := .glo "follows") rfl) (c.t.d.def_ 29 (d := dv "follows" s_follows) rfl),
   df_ok X G (c.t.d.fact 45 (f := .glo "are_records_of") rfl) (c.t.d.def_ 30 (d := dv "are_records_of" s_are_records_of) rfl),
   df_ok X G (c.t.d.fact 46 (f := .glo "journal_of") rfl) (c.t.d.def_ 31 (d := dv "journal_of" s_journal_of) rfl),
   df_ok X G (c.t.d.fact 47 (f := .glo "journal_text") rfl) (c.t.d.def_ 32 (d := dv "journal_text" s_journal_text) rfl),
   df_ok X G (c.t.d.fact 48 (f := .glo "int_from") rfl) (c.t.d.def_ 33 (d := dv "int_from" s_int_from) rfl),
   df_ok X G (c.t.d.fact 49 (f := .glo "telling_from") rfl) (c.t.d.def_ 34 (d := dv "telling_from" s_telling_from) rfl),
   df_ok X G (c.t.d.fact 50 (f := .glo "telling_by") rfl) (c.t.d.def_ 35 (d := dv "telling_by" s_telling_by) rfl),
   df_ok X G (c.t.d.fact 51 (f := .glo "number_by") rfl) (c.t.d.def_ 36 (d := dv "number_by" s_number_by) rfl),
   df_ok X G (c.t.d.fact 52 (f := .glo "record_by") rfl) (c.t.d.def_ 37 (d := dv "record_by" s_record_by) rfl),
   df_ok X G (c.t.d.fact 53 (f := .glo "record_in") rfl) (c.t.d.def_ 38 (d := dv "record_in" s_record_in) rfl),
   df_ok X G (c.t.d.fact 54 (f := .glo "read_of") rfl) (c.t.d.def_ 39 (d := dv "read_of" s_read_of) rfl),
   df_ok X G (c.t.d.fact 55 (f := .glo "want_journal") rfl) (c.t.d.def_ 40 (d := dv "want_journal" s_want_journal) rfl),
   df_ok X G (c.t.d.fact 56 (f := .glo "read_journal") rfl) (c.t.d.def_ 41 (d := dv "read_journal" s_read_journal) rfl),
   df_ok X G (c.t.d.fact 57 (f := .glo "are_records") rfl) (c.t.d.def_ 42 (d := dv "are_records" s_are_records) rfl),
   df_ok X G (c.t.d.fact 58 (f := .glo "_law_is_right") rfl) (c.t.d.def_ 43 (d := dv "_law_is_right" s__law_is_right) rfl),
   df_ok X G (c.t.d.fact 59 (f := .glo "sum_of") rfl) (c.t.d.def_ 44 (d := dv "sum_of" s_sum_of) rfl),
   df_ok X G (c.t.d.fact 60 (f := .glo "law") rfl) (c.t.d.def_ 45 (d := dv "law" s_law) rfl)⟩
abbrev R : PySem.W.OpenRow := PySem.W.OpenLaw.row PySem.Challenge.rw_onlychanged_k73_whole_journals_cut_and_s
abbrev hk : PySem.W.Hook := He.hookX 4 fa_ fn_ ts_ [] ex_
def ob (s : PySem.W.SharedT) : He.AlX := He.obsX 4 fa_ fn_ ts_ [] ex_ (HandSHeadRun.getT s)
theorem ob_eq (s : PySem.W.SharedT) : ob s = hk.obs s.abs := He.obsX_eq (HandSHeadRun.getT_eq s)
def nm_0 : List PySem.Str := ["TongueError", "InvalidText", "InvalidNumber", "InvalidRecord", "is_integer", "is_count", "is_row", "LEAST_INT", "MOST_INT", "MOST_SIGNS_words", "SMALL", "GREAT", "FIGURES", "SIGNS", "RESERVED", "is_int", "has_signs", "is_name", "is_input_name", "is_sign", "INT", "BOOL", "UNIT", "NIL", "VAR", "FN", "CALL", "LET", "REC", "IF"]
def nm_1 : List PySem.Str := ["OP", "PAIR", "FIRST", "SECOND", "CONS", "MATCH", "READ", "MOST_DATA_NODES", "MOST_DATA_DEEP", "CHILDREN", "LONG", "are_two_names", "is_node", "children_of", "is_within", "is_data_of", "PROGRAM", "INPUTS", "SET", "TOLD", "KEPT", "FUN", "UNDER", "MOST_SIGNS_journals", "MOST_TEXT", "MOST_COUNT", "MOST_DEEP", "FEED", "MARK", "PLAIN"]
def nm_2 : List PySem.Str := ["DOUBLE", "is_telling_of", "word_of", "int_from", "telling_from", "telling_by", "is_text", "is_number", "is_record_of", "can_follow", "follows", "are_records_of", "sum_of_signs", "parts_of", "line_of", "number_by", "record_by", "record_in", "journal_of", "read_of", "want_journal", "are_records", "sum_of", "record_line", "journal_text", "read_journal", "_law_pot", "_law_draw", "_law_pick", "_law_data"]
def nm_3 : List PySem.Str := ["_law_text", "_law_records", "_law_is_right"]
def nm_ : List PySem.Str := nm_0 ++ (nm_1 ++ (nm_2 ++ (nm_3)))
abbrev qv : Program := PySem.W.view R.prog [99]
end K73
set_option Elab.async false
set_option linter.all false
set_option maxRecDepth 100000
set_option maxHeartbeats 0
namespace K73
open PySem PySem.Spec PyProof.Rows L2 PDL HX
theorem run_f (w : World) : HandSHeadRun.RunEq R qv hk ob 8000 nm_ (w.withFollow "special-get-raises" false) := by
  intro os
  kernel_rfl
theorem run_t (w : World) : HandSHeadRun.RunEq R qv hk ob 8000 nm_ (w.withFollow "special-get-raises" true) := by
  intro os
  kernel_rfl
theorem run (w : World) : HandSHeadRun.RunEq R qv hk ob 8000 nm_ w := PySem.W.byRow2 "special-get-raises" (P := fun w => HandSHeadRun.RunEq R qv hk ob 8000 nm_ w) run_f run_t w
end K73
set_option Elab.async false
set_option linter.all false
set_option maxRecDepth 100000
/-! PD8: evaluating: simp lemmas, loops, leavings. -/
namespace PDL
open PySem PySem.Spec PyProof.Rows L2
def kBin2 (f : D → D → Store → Option (D × Store)) (y : D) : Option (D × Store) → Option (D × Store)
  | some (x, μ) => f y x μ
  | none => none
@[simp] theorem kBin2_s (f : D → D → Store → Option (D × Store)) (y : D) {x : D} {μ : Store} : kBin2 f y (some (x, μ)) = f y x μ := rfl
def kBin (f : D → D → Store → Option (D × Store)) (b : Ev) (ρ : Env) : Option (D × Store) → Option (D × Store)
  | some (x, μ) => kBin2 f x (b ρ μ)
  | none => none
@[simp] theorem kBin_s (f : D → D → Store → Option (D × Store)) (b : Ev) (ρ : Env) {x : D} {μ : Store} : kBin f b ρ (some (x, μ)) = kBin2 f x (b ρ μ) := rfl
def kUn (f : D → Store → Option (D × Store)) : Option (D × Store) → Option (D × Store)
  | some (x, μ) => f x μ
  | none => none
@[simp] theorem kUn_s (f : D → Store → Option (D × Store)) {x : D} {μ : Store} : kUn f (some (x, μ)) = f x μ := rfl
def kBl (μ : Store) : Option Bool → Option (D × Store)
  | some c => some (.bl c, μ)
  | none => none
@[simp] theorem kBl_s {μ : Store} {c : Bool} : kBl μ (some c) = some (.bl c, μ) := rfl
def kTl (μ : Store) : Option Bool → Option (Bool × Store)
  | some c => some (c, μ)
  | none => none
@[simp] theorem kTl_s {μ : Store} {c : Bool} : kTl μ (some c) = some (c, μ) := rfl
def kCmp2 (f : D → D → Store → Option Bool) (y : D) : Option (D × Store) → Option (D × Store)
  | some (x, μ) => kBl μ (f y x μ)
  | none => none
@[simp] theorem kCmp2_s (f : D → D → Store → Option Bool) (y : D) {x : D} {μ : Store} : kCmp2 f y (some (x, μ)) = kBl μ (f y x μ) := rfl
def kCmp (f : D → D → Store → Option Bool) (b : Ev) (ρ : Env) : Option (D × Store) → Option (D × Store)
  | some (x, μ) => kCmp2 f x (b ρ μ)
  | none => none
@[simp] theorem kCmp_s (f : D → D → Store → Option Bool) (b : Ev) (ρ : Env) {x : D} {μ : Store} : kCmp f b ρ (some (x, μ)) = kCmp2 f x (b ρ μ) := rfl
def kTCmp2 (f : D → D → Store → Option Bool) (y : D) : Option (D × Store) → Option (Bool × Store)
  | some (x, μ) => kTl μ (f y x μ)
  | none => none
@[simp] theorem kTCmp2_s (f : D → D → Store → Option Bool) (y : D) {x : D} {μ : Store} : kTCmp2 f y (some (x, μ)) = kTl μ (f y x μ) := rfl
def kTCmp (f : D → D → Store → Option Bool) (b : Ev) (ρ : Env) : Option (D × Store) → Option (Bool × Store)
  | some (x, μ) => kTCmp2 f x (b ρ μ)
  | none => none
@[simp] theorem kTCmp_s (f : D → D → Store → Option Bool) (b : Ev) (ρ : Env) {x : D} {μ : Store} : kTCmp f b ρ (some (x, μ)) = kTCmp2 f x (b ρ μ) := rfl
def kTest : Option (D × Store) → Option (Bool × Store)
  | some (.bl b, μ) => some (b, μ)
  | _ => none
@[simp] theorem kTest_s {μ : Store} {c : Bool} : kTest (some (.bl c, μ)) = some (c, μ) := rfl
def kNotT  : Option (Bool × Store) → Option (Bool × Store)
  | some (c, μ) => some (!c, μ)
  | none => none
@[simp] theorem kNotT_s  {c : Bool} {μ : Store} : kNotT  (some (c, μ)) = some (!c, μ) := rfl
def kAndT (t : EvT) (ρ : Env) : Option (Bool × Store) → Option (Bool × Store)
  | some (c, μ) => if c then t ρ μ else some (false, μ)
  | none => none
@[simp] theorem kAndT_s (t : EvT) (ρ : Env) {c : Bool} {μ : Store} : kAndT t ρ (some (c, μ)) = if c then t ρ μ else some (false, μ) := rfl
def kOrT (t : EvT) (ρ : Env) : Option (Bool × Store) → Option (Bool × Store)
  | some (c, μ) => if c then some (true, μ) else t ρ μ
  | none => none
@[simp] theorem kOrT_s (t : EvT) (ρ : Env) {c : Bool} {μ : Store} : kOrT t ρ (some (c, μ)) = if c then some (true, μ) else t ρ μ := rfl
def kNot : Option (D × Store) → Option (D × Store)
  | some (.bl b, μ) => some (.bl (!b), μ)
  | _ => none
@[simp] theorem kNot_s {μ : Store} {c : Bool} : kNot (some (.bl c, μ)) = some (.bl (!c), μ) := rfl
def kAnd (b : Ev) (ρ : Env) : Option (D × Store) → Option (D × Store)
  | some (.bl c, μ) => if c then b ρ μ else some (.bl false, μ)
  | _ => none
@[simp] theorem kAnd_s {b : Ev} {ρ : Env} {μ : Store} {c : Bool} : kAnd b ρ (some (.bl c, μ)) = if c then b ρ μ else some (.bl false, μ) := rfl
def kOr (b : Ev) (ρ : Env) : Option (D × Store) → Option (D × Store)
  | some (.bl c, μ) => if c then some (.bl true, μ) else b ρ μ
  | _ => none
@[simp] theorem kOr_s {b : Ev} {ρ : Env} {μ : Store} {c : Bool} : kOr b ρ (some (.bl c, μ)) = if c then some (.bl true, μ) else b ρ μ := rfl
def kIf (a b : Ev) (ρ : Env) : Option (Bool × Store) → Option (D × Store)
  | some (c, μ) => if c then a ρ μ else b ρ μ
  | none => none
@[simp] theorem kIf_s (a b : Ev) (ρ : Env) {c : Bool} {μ : Store} : kIf a b ρ (some (c, μ)) = if c then a ρ μ else b ρ μ := rfl
def kCh3 (g : D → D → Store → Option Bool) (y : D) : Option (D × Store) → Option (D × Store)
  | some (x, μ) => kBl μ (g y x μ)
  | none => none
@[simp] theorem kCh3_s (g : D → D → Store → Option Bool) (y : D) {x : D} {μ : Store} : kCh3 g y (some (x, μ)) = kBl μ (g y x μ) := rfl
def kCh2b (g : D → D → Store → Option Bool) (y : D) (c : Ev) (ρ : Env) (μ : Store) : Option Bool → Option (D × Store)
  | some true => kCh3 g y (c ρ μ)
  | some false => some (.bl false, μ)
  | none => none
@[simp] theorem kCh2b_t {g : D → D → Store → Option Bool} {y : D} {c : Ev} {ρ : Env} {μ : Store} {k : Bool} : kCh2b g y c ρ μ (some k) = if k then kCh3 g y (c ρ μ) else some (.bl false, μ) := by cases k <;> rfl
def kCh2 (f g : D → D → Store → Option Bool) (z : D) (c : Ev) (ρ : Env) : Option (D × Store) → Option (D × Store)
  | some (x, μ) => kCh2b g x c ρ μ (f z x μ)
  | none => none
@[simp] theorem kCh2_s (f g : D → D → Store → Option Bool) (z : D) (c : Ev) (ρ : Env) {x : D} {μ : Store} : kCh2 f g z c ρ (some (x, μ)) = kCh2b g x c ρ μ (f z x μ) := rfl
def kCh (f g : D → D → Store → Option Bool) (b c : Ev) (ρ : Env) : Option (D × Store) → Option (D × Store)
  | some (x, μ) => kCh2 f g x c ρ (b ρ μ)
  | none => none
@[simp] theorem kCh_s (f g : D → D → Store → Option Bool) (b c : Ev) (ρ : Env) {x : D} {μ : Store} : kCh f g b c ρ (some (x, μ)) = kCh2 f g x c ρ (b ρ μ) := rfl
def kTh3 (g : D → D → Store → Option Bool) (y : D) : Option (D × Store) → Option (Bool × Store)
  | some (x, μ) => kTl μ (g y x μ)
  | none => none
@[simp] theorem kTh3_s (g : D → D → Store → Option Bool) (y : D) {x : D} {μ : Store} : kTh3 g y (some (x, μ)) = kTl μ (g y x μ) := rfl
def kTh2b (g : D → D → Store → Option Bool) (y : D) (c : Ev) (ρ : Env) (μ : Store) : Option Bool → Option (Bool × Store)
  | some true => kTh3 g y (c ρ μ)
  | some false => some (false, μ)
  | none => none
@[simp] theorem kTh2b_t {g : D → D → Store → Option Bool} {y : D} {c : Ev} {ρ : Env} {μ : Store} {k : Bool} : kTh2b g y c ρ μ (some k) = if k then kTh3 g y (c ρ μ) else some (false, μ) := by cases k <;> rfl
def kTh2 (f g : D → D → Store → Option Bool) (z : D) (c : Ev) (ρ : Env) : Option (D × Store) → Option (Bool × Store)
  | some (x, μ) => kTh2b g x c ρ μ (f z x μ)
  | none => none
@[simp] theorem kTh2_s (f g : D → D → Store → Option Bool) (z : D) (c : Ev) (ρ : Env) {x : D} {μ : Store} : kTh2 f g z c ρ (some (x, μ)) = kTh2b g x c ρ μ (f z x μ) := rfl
def kTh (f g : D → D → Store → Option Bool) (b c : Ev) (ρ : Env) : Option (D × Store) → Option (Bool × Store)
  | some (x, μ) => kTh2 f g x c ρ (b ρ μ)
  | none => none
@[simp] theorem kTh_s (f g : D → D → Store → Option Bool) (b c : Ev) (ρ : Env) {x : D} {μ : Store} : kTh f g b c ρ (some (x, μ)) = kTh2 f g x c ρ (b ρ μ) := rfl
def kCons2 (y : D) : Option (List D × Store) → Option (List D × Store)
  | some (xs, μ) => some (y :: xs, μ)
  | none => none
@[simp] theorem kCons2_s (y : D) {xs : List D} {μ : Store} : kCons2 y (some (xs, μ)) = some (y :: xs, μ) := rfl
def kCons (r : EvA) (ρ : Env) : Option (D × Store) → Option (List D × Store)
  | some (x, μ) => kCons2 x (r ρ μ)
  | none => none
@[simp] theorem kCons_s (r : EvA) (ρ : Env) {x : D} {μ : Store} : kCons r ρ (some (x, μ)) = kCons2 x (r ρ μ) := rfl
def kTup  : Option (List D × Store) → Option (D × Store)
  | some (xs, μ) => if xs.length ≤ sizeLine then some (.tup xs, μ) else none
  | none => none
@[simp] theorem kTup_s  {xs : List D} {μ : Store} : kTup  (some (xs, μ)) = if xs.length ≤ sizeLine then some (.tup xs, μ) else none := rfl
def kLst  : Option (List D × Store) → Option (D × Store)
  | some (xs, μ) => if xs.length ≤ sizeLine then some (.loc μ.length, μ ++ [.lst xs]) else none
  | none => none
@[simp] theorem kLst_s  {xs : List D} {μ : Store} : kLst  (some (xs, μ)) = if xs.length ≤ sizeLine then some (.loc μ.length, μ ++ [.lst xs]) else none := rfl
def kCall (m : List D → Store → Option (D × Store)) : Option (List D × Store) → Option (D × Store)
  | some (xs, μ) => m xs μ
  | none => none
@[simp] theorem kCall_s (m : List D → Store → Option (D × Store)) {xs : List D} {μ : Store} : kCall m (some (xs, μ)) = m xs μ := rfl
def kOSome : Option (D × Store) → Option (Option Int × Store)
  | some (.int i, μ) => some (some i, μ)
  | _ => none
@[simp] theorem kOSome_s {i : Int} {μ : Store} : kOSome (some (.int i, μ)) = some (some i, μ) := rfl
def kSl3 (h : D → Option Int → Option Int → Store → Option (D × Store)) (y : D) (l : Option Int) : Option (Option Int × Store) → Option (D × Store)
  | some (o, μ) => h y l o μ
  | none => none
@[simp] theorem kSl3_s (h : D → Option Int → Option Int → Store → Option (D × Store)) (y : D) (l : Option Int) {o : Option Int} {μ : Store} : kSl3 h y l (some (o, μ)) = h y l o μ := rfl
def kSl2 (h : D → Option Int → Option Int → Store → Option (D × Store)) (y : D) (hi : EvO) (ρ : Env) : Option (Option Int × Store) → Option (D × Store)
  | some (o, μ) => kSl3 h y o (hi ρ μ)
  | none => none
@[simp] theorem kSl2_s (h : D → Option Int → Option Int → Store → Option (D × Store)) (y : D) (hi : EvO) (ρ : Env) {o : Option Int} {μ : Store} : kSl2 h y hi ρ (some (o, μ)) = kSl3 h y o (hi ρ μ) := rfl
def kSl (h : D → Option Int → Option Int → Store → Option (D × Store)) (lo hi : EvO) (ρ : Env) : Option (D × Store) → Option (D × Store)
  | some (x, μ) => kSl2 h x hi ρ (lo ρ μ)
  | none => none
@[simp] theorem kSl_s (h : D → Option Int → Option Int → Store → Option (D × Store)) (lo hi : EvO) (ρ : Env) {x : D} {μ : Store} : kSl h lo hi ρ (some (x, μ)) = kSl2 h x hi ρ (lo ρ μ) := rfl
def kMe2 (h : D → List D → Store → Option (D × Store)) (y : D) : Option (List D × Store) → Option (D × Store)
  | some (xs, μ) => h y xs μ
  | none => none
@[simp] theorem kMe2_s (h : D → List D → Store → Option (D × Store)) (y : D) {xs : List D} {μ : Store} : kMe2 h y (some (xs, μ)) = h y xs μ := rfl
def kMe (T : String) (h : D → List D → Store → Option (D × Store)) (as : EvA) (ρ : Env) : Option (D × Store) → Option (D × Store)
  | some (x, μ) => if isTy T μ x then kMe2 h x (as ρ μ) else none
  | none => none
@[simp] theorem kMe_s (T : String) (h : D → List D → Store → Option (D × Store)) (as : EvA) (ρ : Env) {x : D} {μ : Store} : kMe T h as ρ (some (x, μ)) = if isTy T μ x then kMe2 h x (as ρ μ) else none := rfl
def kIsi2b (n k : String) (μ : Store) : Option String → Option (D × Store)
  | some t => some (.bl (isiB t n || isiB t k), μ)
  | none => none
@[simp] theorem kIsi2b_s {n k t : String} {μ : Store} : kIsi2b n k μ (some t) = some (.bl (isiB t n || isiB t k), μ) := rfl
def kIsi2 (n k : String) : Option (D × Store) → Option (D × Store)
  | some (x, μ) => if n ∈ isiTys ∧ k ∈ isiTys then kIsi2b n k μ (tyD μ x) else none
  | none => none
@[simp] theorem kIsi2_s (n k : String) {x : D} {μ : Store} : kIsi2 n k (some (x, μ)) = if n ∈ isiTys ∧ k ∈ isiTys then kIsi2b n k μ (tyD μ x) else none := rfl
def kRepl (y z : Str) : Option (D × Store) → Option (D × Store)
  | some (.str x, μ) => if x.length + (x.length + 1) * z.length ≤ 16777216 then some (.str (Txt.replace x y z), μ) else none
  | _ => none
@[simp] theorem kRepl_s {y z x : Str} {μ : Store} : kRepl y z (some (.str x, μ)) = if x.length + (x.length + 1) * z.length ≤ 16777216 then some (.str (Txt.replace x y z), μ) else none := rfl
def kTKIn (neg : Bool) (tab : List (Str × D)) : Option (D × Store) → Option (Bool × Store)
  | some (.str z, μ) => some (if neg then !(tget tab z).isSome else (tget tab z).isSome, μ)
  | _ => none
@[simp] theorem kTKIn_s {neg : Bool} {tab : List (Str × D)} {z : Str} {μ : Store} : kTKIn neg tab (some (.str z, μ)) = some (if neg then !(tget tab z).isSome else (tget tab z).isSome, μ) := rfl
def kKIx2 (μ : Store) : Option D → Option (D × Store)
  | some d => some (d, μ)
  | none => none
@[simp] theorem kKIx2_s {d : D} {μ : Store} : kKIx2 μ (some d) = some (d, μ) := rfl
def kKIx (tab : List (Str × D)) : Option (D × Store) → Option (D × Store)
  | some (.str z, μ) => kKIx2 μ (tget tab z)
  | _ => none
@[simp] theorem kKIx_s {tab : List (Str × D)} {z : Str} {μ : Store} : kKIx tab (some (.str z, μ)) = kKIx2 μ (tget tab z) := rfl
def kSeq (b : EvS) : Option (Fl × Env × Store) → Option (Fl × Env × Store)
  | some (.nx, ρ, μ) => b ρ μ
  | r => r
@[simp] theorem kSeq_n {b : EvS} {ρ : Env} {μ : Store} : kSeq b (some (.nx, ρ, μ)) = b ρ μ := rfl
@[simp] theorem kSeq_r {b : EvS} {ρ : Env} {μ : Store} {d : D} : kSeq b (some (.rt d, ρ, μ)) = some (.rt d, ρ, μ) := rfl
@[simp] theorem kSeq_b {b : EvS} {ρ : Env} {μ : Store} : kSeq b (some (.bk, ρ, μ)) = some (.bk, ρ, μ) := rfl
@[simp] theorem kSeq_c {b : EvS} {ρ : Env} {μ : Store} : kSeq b (some (.ct, ρ, μ)) = some (.ct, ρ, μ) := rfl
def kAsg2  : Option (Env × Store) → Option (Fl × Env × Store)
  | some (ρ, μ) => some (.nx, ρ, μ)
  | none => none
@[simp] theorem kAsg2_s  {ρ : Env} {μ : Store} : kAsg2  (some (ρ, μ)) = some (.nx, ρ, μ) := rfl
def kAsg (g : EvG) (r : Env) : Option (D × Store) → Option (Fl × Env × Store)
  | some (x, μ) => kAsg2 (g x r μ)
  | none => none
@[simp] theorem kAsg_s (g : EvG) (r : Env) {x : D} {μ : Store} : kAsg g r (some (x, μ)) = kAsg2 (g x r μ) := rfl
def kPar (i j : Nat) (ρ : Env) : Option (List D × Store) → Option (Fl × Env × Store)
  | some ([x, y], μ) => some (.nx, (ρ.set i (some x)).set j (some y), μ)
  | _ => none
@[simp] theorem kPar_s {i j : Nat} {ρ : Env} {x y : D} {μ : Store} : kPar i j ρ (some ([x, y], μ)) = some (.nx, (ρ.set i (some x)).set j (some y), μ) := rfl
def kPar3 (i j l : Nat) (ρ : Env) : Option (List D × Store) → Option (Fl × Env × Store)
  | some ([x, y, z], μ) => some (.nx, ((ρ.set i (some x)).set j (some y)).set l (some z), μ)
  | _ => none
@[simp] theorem kPar3_s {i j l : Nat} {ρ : Env} {x y z : D} {μ : Store} : kPar3 i j l ρ (some ([x, y, z], μ)) = some (.nx, ((ρ.set i (some x)).set j (some y)).set l (some z), μ) := rfl
def kDrop (ρ : Env) : Option (D × Store) → Option (Fl × Env × Store)
  | some (x, μ) => some (.nx, ρ, μ)
  | none => none
@[simp] theorem kDrop_s (ρ : Env) {x : D} {μ : Store} : kDrop ρ (some (x, μ)) = some (.nx, ρ, μ) := rfl
def kRet (ρ : Env) : Option (D × Store) → Option (Fl × Env × Store)
  | some (x, μ) => some (.rt x, ρ, μ)
  | none => none
@[simp] theorem kRet_s (ρ : Env) {x : D} {μ : Store} : kRet ρ (some (x, μ)) = some (.rt x, ρ, μ) := rfl
def kIfS (a b : EvS) (ρ : Env) : Option (Bool × Store) → Option (Fl × Env × Store)
  | some (c, μ) => if c then a ρ μ else b ρ μ
  | none => none
@[simp] theorem kIfS_s (a b : EvS) (ρ : Env) {c : Bool} {μ : Store} : kIfS a b ρ (some (c, μ)) = if c then a ρ μ else b ρ μ := rfl
def kAug2 (i : Nat) (ρ : Env) : Option (D × Store) → Option (Fl × Env × Store)
  | some (x, μ) => some (.nx, ρ.set i (some x), μ)
  | none => none
@[simp] theorem kAug2_s (i : Nat) (ρ : Env) {x : D} {μ : Store} : kAug2 i ρ (some (x, μ)) = some (.nx, ρ.set i (some x), μ) := rfl
def kAug1 (i : Nat) (f : D → D → Store → Option (D × Store)) (y : D) (ρ : Env) : Option (D × Store) → Option (Fl × Env × Store)
  | some (x, μ) => kAug2 i ρ (f y x μ)
  | none => none
@[simp] theorem kAug1_s (i : Nat) (f : D → D → Store → Option (D × Store)) (y : D) (ρ : Env) {x : D} {μ : Store} : kAug1 i f y ρ (some (x, μ)) = kAug2 i ρ (f y x μ) := rfl
def kAug (i : Nat) (f : D → D → Store → Option (D × Store)) (e : Ev) (ρ : Env) (μ : Store) : Option (Option D) → Option (Fl × Env × Store)
  | some (some x) => kAug1 i f x ρ (e ρ μ)
  | _ => none
@[simp] theorem kAug_s {i : Nat} {f : D → D → Store → Option (D × Store)} {e : Ev} {ρ : Env} {μ : Store} {x : D} : kAug i f e ρ μ (some (some x)) = kAug1 i f x ρ (e ρ μ) := rfl
def kVar (μ : Store) : Option (Option D) → Option (D × Store)
  | some (some d) => some (d, μ)
  | _ => none
@[simp] theorem kVar_s {μ : Store} {x : D} : kVar μ (some (some x)) = some (x, μ) := rfl
def kEg (g : EvGs) (ds : List D) : Option (Env × Store) → Option (Env × Store)
  | some (ρ, μ) => g ds ρ μ
  | none => none
@[simp] theorem kEg_s (g : EvGs) (ds : List D) {ρ : Env} {μ : Store} : kEg g ds (some (ρ, μ)) = g ds ρ μ := rfl
def kSub3 (ρ : Env) : Option Store → Option (Env × Store)
  | some μ => some (ρ, μ)
  | none => none
@[simp] theorem kSub3_s {ρ : Env} {μ : Store} : kSub3 ρ (some μ) = some (ρ, μ) := rfl
def kSub2 (h : D → D → D → Store → Option Store) (y d : D) (ρ : Env) : Option (D × Store) → Option (Env × Store)
  | some (x, μ) => kSub3 ρ (h y x d μ)
  | none => none
@[simp] theorem kSub2_s (h : D → D → D → Store → Option Store) (y d : D) (ρ : Env) {x : D} {μ : Store} : kSub2 h y d ρ (some (x, μ)) = kSub3 ρ (h y x d μ) := rfl
def kSub (h : D → D → D → Store → Option Store) (b : Ev) (d : D) (ρ : Env) : Option (D × Store) → Option (Env × Store)
  | some (x, μ) => kSub2 h x d ρ (b ρ μ)
  | none => none
@[simp] theorem kSub_s (h : D → D → D → Store → Option Store) (b : Ev) (d : D) (ρ : Env) {x : D} {μ : Store} : kSub h b d ρ (some (x, μ)) = kSub2 h x d ρ (b ρ μ) := rfl
def kSeqI (μ : Store) (n : Nat) : Option MO → Option (Rd1 × Store)
  | some (.lst _) => some (rdLoc n, μ)
  | _ => none
@[simp] theorem kSeqI_s {μ : Store} {n : Nat} {xs : List D} : kSeqI μ n (some (.lst xs)) = some (rdLoc n, μ) := rfl
def kSeqJ : Option (D × Store) → Option (Rd1 × Store)
  | some (.loc n, μ) => kSeqI μ n μ[n]?
  | _ => none
@[simp] theorem kSeqJ_s {μ : Store} {n : Nat} : kSeqJ (some (.loc n, μ)) = kSeqI μ n μ[n]? := rfl
def kTupI : Option (D × Store) → Option (Rd1 × Store)
  | some (.tup xs, μ) => some (rdList xs, μ)
  | _ => none
@[simp] theorem kTupI_s {μ : Store} {xs : List D} : kTupI (some (.tup xs, μ)) = some (rdList xs, μ) := rfl
def kStrI : Option (D × Store) → Option (Rd1 × Store)
  | some (.str x, μ) => some (rdList (strs1 x), μ)
  | _ => none
@[simp] theorem kStrI_s {μ : Store} {x : Str} : kStrI (some (.str x, μ)) = some (rdList (strs1 x), μ) := rfl
def kRanI : Option (List D × Store) → Option (Rd1 × Store)
  | some ([.int j], μ) => if -(2 ^ 62) ≤ j ∧ j < 2 ^ 62 then some (rdRange j.toNat, μ) else none
  | _ => none
@[simp] theorem kRanI_s {μ : Store} {j : Int} : kRanI (some ([.int j], μ)) = if -(2 ^ 62) ≤ j ∧ j < 2 ^ 62 then some (rdRange j.toNat, μ) else none := rfl
def kEnuJ (μ : Store) (n : Nat) : Option MO → Option (Rd1 × Store)
  | some (.lst _) => some (rdEnum n, μ)
  | _ => none
@[simp] theorem kEnuJ_s {μ : Store} {n : Nat} {xs : List D} : kEnuJ μ n (some (.lst xs)) = some (rdEnum n, μ) := rfl
def kEnuI : Option (List D × Store) → Option (Rd1 × Store)
  | some ([.loc n], μ) => kEnuJ μ n μ[n]?
  | _ => none
@[simp] theorem kEnuI_s {μ : Store} {n : Nat} : kEnuI (some ([.loc n], μ)) = kEnuJ μ n μ[n]? := rfl
def kRun : Option (Fl × Env × Store) → Option (D × Store)
  | some (.rt d, _, μ) => some (d, μ)
  | some (.nx, _, μ) => some (.non, μ)
  | _ => none
@[simp] theorem kRun_r {d : D} {ρ : Env} {μ : Store} : kRun (some (.rt d, ρ, μ)) = some (d, μ) := rfl
@[simp] theorem kRun_n {ρ : Env} {μ : Store} : kRun (some (.nx, ρ, μ)) = some (.non, μ) := rfl
noncomputable def kComp (g : D → Env → Option Env) (t : EvT) (e : Ev) (ρ : Env) : Option (Rd1 × Store) → Option (D × Store)
  | some (rd, μ) => (compN rd g t e μ.length FUEL 0 ρ (μ ++ [.lst []])).map fun μ' => (.loc μ.length, μ')
  | none => none
@[simp] theorem kComp_s {g : D → Env → Option Env} {t : EvT} {e : Ev} {ρ : Env} {rd : Rd1} {μ : Store} : kComp g t e ρ (some (rd, μ)) = (compN rd g t e μ.length FUEL 0 ρ (μ ++ [.lst []])).map fun μ' => (.loc μ.length, μ') := rfl
section
variable {ρ : Env} {μ : Store} {d : D} {i : Nat} {f g : D → D → Store → Option (D × Store)} {cf cg : D → D → Store → Option Bool} {u : D → Store → Option (D × Store)} {a b c e : Ev} {t t1 t2 : EvT} {as : EvA} {s1 s2 : EvS} {m : List D → Store → Option (D × Store)} {eg : EvG} {gs : EvGs}
@[simp] theorem s_evC : evC d ρ μ = some (d, μ) := rfl
@[simp] theorem s_evVar : evVar i ρ μ = kVar μ ρ[i]? := by unfold evVar; cases ρ[i]? with | none => rfl | some o => cases o <;> rfl
@[simp] theorem s_evBin : evBin f a b ρ μ = kBin f b ρ (a ρ μ) := by
  unfold evBin
  cases h : a ρ μ with
  | none => rfl
  | some p =>
    show ((b ρ p.2).bind fun q => f p.1 q.1 q.2) = kBin2 f p.1 (b ρ p.2)
    cases h2 : b ρ p.2 <;> rfl
@[simp] theorem s_evUn : evUn u a ρ μ = kUn u (a ρ μ) := by unfold evUn; cases h : a ρ μ <;> rfl
@[simp] theorem s_evCmp : evCmp cf a b ρ μ = kCmp cf b ρ (a ρ μ) := by
  unfold evCmp
  cases h : a ρ μ with
  | none => rfl
  | some p =>
    show ((b ρ p.2).bind fun q => (cf p.1 q.1 q.2).map fun c => (D.bl c, q.2)) = kCmp2 cf p.1 (b ρ p.2)
    cases h2 : b ρ p.2 with
    | none => rfl
    | some q =>
      show ((cf p.1 q.1 q.2).map fun c => (D.bl c, q.2)) = kBl q.2 (cf p.1 q.1 q.2)
      cases h3 : cf p.1 q.1 q.2 <;> rfl
@[simp] theorem s_evTCmp : evTCmp cf a b ρ μ = kTCmp cf b ρ (a ρ μ) := by
  unfold evTCmp
  cases h : a ρ μ with
  | none => rfl
  | some p =>
    show ((b ρ p.2).bind fun q => (cf p.1 q.1 q.2).map fun c => (c, q.2)) = kTCmp2 cf p.1 (b ρ p.2)
    cases h2 : b ρ p.2 with
    | none => rfl
    | some q =>
      show ((cf p.1 q.1 q.2).map fun c => (c, q.2)) = kTl q.2 (cf p.1 q.1 q.2)
      cases h3 : cf p.1 q.1 q.2 <;> rfl
@[simp] theorem s_evTest : evTest a ρ μ = kTest (a ρ μ) := by unfold evTest; cases h : a ρ μ with | none => rfl | some p => (obtain ⟨x, y⟩ := p; cases x <;> rfl)
@[simp] theorem s_evNotT : evNotT t ρ μ = kNotT (t ρ μ) := by unfold evNotT; cases h : t ρ μ <;> rfl
@[simp] theorem s_evAndT : evAndT t1 t2 ρ μ = kAndT t2 ρ (t1 ρ μ) := by unfold evAndT; cases h : t1 ρ μ <;> rfl
@[simp] theorem s_evOrT : evOrT t1 t2 ρ μ = kOrT t2 ρ (t1 ρ μ) := by unfold evOrT; cases h : t1 ρ μ <;> rfl
@[simp] theorem s_evNot : evNot a ρ μ = kNot (a ρ μ) := by unfold evNot; cases h : a ρ μ with | none => rfl | some p => (obtain ⟨x, y⟩ := p; cases x <;> rfl)
@[simp] theorem s_evAnd : evAnd a b ρ μ = kAnd b ρ (a ρ μ) := by unfold evAnd; cases h : a ρ μ with | none => rfl | some p => (obtain ⟨x, y⟩ := p; cases x <;> rfl)
@[simp] theorem s_evOr : evOr a b ρ μ = kOr b ρ (a ρ μ) := by unfold evOr; cases h : a ρ μ with | none => rfl | some p => (obtain ⟨x, y⟩ := p; cases x <;> rfl)
@[simp] theorem s_evIf : evIf t a b ρ μ = kIf a b ρ (t ρ μ) := by unfold evIf; cases h : t ρ μ <;> rfl
@[simp] theorem s_evChain : evChain cf cg a b c ρ μ = kCh cf cg b c ρ (a ρ μ) := by
  unfold evChain
  cases h : a ρ μ with
  | none => rfl
  | some p =>
    show _ = kCh2 cf cg p.1 c ρ (b ρ p.2)
    simp only [Option.bind_some]
    cases h2 : b ρ p.2 with
    | none => rfl
    | some q =>
      show _ = kCh2b cg q.1 c ρ q.2 (cf p.1 q.1 q.2)
      simp only [Option.bind_some]
      cases h3 : cf p.1 q.1 q.2 with
      | none => rfl
      | some k =>
        cases k with
        | false => rfl
        | true =>
          show ((c ρ q.2).bind fun r => (cg q.1 r.1 r.2).map fun l => (D.bl l, r.2)) = kCh3 cg q.1 (c ρ q.2)
          cases h4 : c ρ q.2 with
          | none => rfl
          | some r =>
            show ((cg q.1 r.1 r.2).map fun l => (D.bl l, r.2)) = kBl r.2 (cg q.1 r.1 r.2)
            cases h5 : cg q.1 r.1 r.2 <;> rfl
@[simp] theorem s_evTChain : evTChain cf cg a b c ρ μ = kTh cf cg b c ρ (a ρ μ) := by
  unfold evTChain
  cases h : a ρ μ with
  | none => rfl
  | some p =>
    show _ = kTh2 cf cg p.1 c ρ (b ρ p.2)
    simp only [Option.bind_some]
    cases h2 : b ρ p.2 with
    | none => rfl
    | some q =>
      show _ = kTh2b cg q.1 c ρ q.2 (cf p.1 q.1 q.2)
      simp only [Option.bind_some]
      cases h3 : cf p.1 q.1 q.2 with
      | none => rfl
      | some k =>
        cases k with
        | false => rfl
        | true =>
          show ((c ρ q.2).bind fun r => (cg q.1 r.1 r.2).map fun l => (l, r.2)) = kTh3 cg q.1 (c ρ q.2)
          cases h4 : c ρ q.2 with
          | none => rfl
          | some r =>
            show ((cg q.1 r.1 r.2).map fun l => (l, r.2)) = kTl r.2 (cg q.1 r.1 r.2)
            cases h5 : cg q.1 r.1 r.2 <;> rfl
@[simp] theorem s_evNil : evNil ρ μ = some ([], μ) := rfl
@[simp] theorem s_evCons : evCons a as ρ μ = kCons as ρ (a ρ μ) := by
  unfold evCons
  cases h : a ρ μ with
  | none => rfl
  | some p =>
    show ((as ρ p.2).map fun q => (p.1 :: q.1, q.2)) = kCons2 p.1 (as ρ p.2)
    cases h2 : as ρ p.2 <;> rfl
@[simp] theorem s_evTup : evTup as ρ μ = kTup (as ρ μ) := by unfold evTup; cases h : as ρ μ <;> rfl
@[simp] theorem s_evLst : evLst as ρ μ = kLst (as ρ μ) := by unfold evLst; cases h : as ρ μ <;> rfl
@[simp] theorem s_evCall : evCall m as ρ μ = kCall m (as ρ μ) := by unfold evCall; cases h : as ρ μ <;> rfl
@[simp] theorem s_evONone : evONone ρ μ = some (none, μ) := rfl
@[simp] theorem s_evOSome : evOSome a ρ μ = kOSome (a ρ μ) := by unfold evOSome; cases h : a ρ μ with | none => rfl | some p => (obtain ⟨x, y⟩ := p; cases x <;> rfl)
@[simp] theorem s_evSl {h : D → Option Int → Option Int → Store → Option (D × Store)} {lo hi : EvO} : evSl h a lo hi ρ μ = kSl h lo hi ρ (a ρ μ) := by
  unfold evSl
  cases h1 : a ρ μ with
  | none => rfl
  | some p =>
    show _ = kSl2 h p.1 hi ρ (lo ρ p.2)
    simp only [Option.bind_some]
    cases h2 : lo ρ p.2 with
    | none => rfl
    | some q =>
      show _ = kSl3 h p.1 q.1 (hi ρ q.2)
      simp only [Option.bind_some]
      cases h3 : hi ρ q.2 <;> rfl
@[simp] theorem s_evMeth {T : String} {h : D → List D → Store → Option (D × Store)} : evMeth T h a as ρ μ = kMe T h as ρ (a ρ μ) := by
  unfold evMeth
  cases h1 : a ρ μ with
  | none => rfl
  | some p =>
    show (if isTy T p.2 p.1 then (as ρ p.2).bind fun q => h p.1 q.1 q.2 else none) = if isTy T p.2 p.1 then kMe2 h p.1 (as ρ p.2) else none
    cases h2 : as ρ p.2 <;> rfl
@[simp] theorem s_evIsi2 {n k : String} : evIsi2 n k a ρ μ = kIsi2 n k (a ρ μ) := by
  unfold evIsi2
  cases h1 : a ρ μ with
  | none => rfl
  | some p =>
    show (if n ∈ isiTys ∧ k ∈ isiTys then (tyD p.2 p.1).map fun t => (D.bl (isiB t n || isiB t k), p.2) else none) = if n ∈ isiTys ∧ k ∈ isiTys then kIsi2b n k p.2 (tyD p.2 p.1) else none
    cases h2 : tyD p.2 p.1 <;> rfl
@[simp] theorem s_evRepl {y z : Str} : evRepl y z a ρ μ = kRepl y z (a ρ μ) := by unfold evRepl; cases h : a ρ μ with | none => rfl | some p => (obtain ⟨x, y⟩ := p; cases x <;> rfl)
@[simp] theorem s_evTKIn {neg : Bool} {tab : List (Str × D)} : evTKIn neg tab a ρ μ = kTKIn neg tab (a ρ μ) := by unfold evTKIn; cases h : a ρ μ with | none => rfl | some p => (obtain ⟨x, y⟩ := p; cases x <;> rfl)
@[simp] theorem s_evKIx {tab : List (Str × D)} : evKIx tab a ρ μ = kKIx tab (a ρ μ) := by
  unfold evKIx
  cases h : a ρ μ with
  | none => rfl
  | some p =>
    obtain ⟨x, y⟩ := p
    cases x with
    | str z =>
      show ((tget tab z).map fun d => (d, y)) = kKIx2 y (tget tab z)
      cases h2 : tget tab z <;> rfl
    | _ => rfl
@[simp] theorem s_evNx : evNx ρ μ = some (.nx, ρ, μ) := rfl
@[simp] theorem s_evSeq : evSeq s1 s2 ρ μ = kSeq s2 (s1 ρ μ) := by unfold evSeq; cases h : s1 ρ μ with | none => rfl | some p => (obtain ⟨x, y, z⟩ := p; cases x <;> rfl)
@[simp] theorem s_evAsg : evAsg e eg ρ μ = kAsg eg ρ (e ρ μ) := by
  unfold evAsg
  cases h : e ρ μ with
  | none => rfl
  | some p =>
    show ((eg p.1 ρ p.2).map fun q => (Fl.nx, q.1, q.2)) = kAsg2 (eg p.1 ρ p.2)
    cases h2 : eg p.1 ρ p.2 <;> rfl
@[simp] theorem s_evPar {j : Nat} : evPar i j as ρ μ = kPar i j ρ (as ρ μ) := by
  unfold evPar
  cases h : as ρ μ with
  | none => rfl
  | some p =>
    obtain ⟨x, y⟩ := p
    match x with
    | [] => rfl
    | [_] => rfl
    | [_, _] => rfl
    | _ :: _ :: _ :: _ => rfl
@[simp] theorem s_evPar3 {j l : Nat} : evPar3 i j l as ρ μ = kPar3 i j l ρ (as ρ μ) := by
  unfold evPar3
  cases h : as ρ μ with
  | none => rfl
  | some p =>
    obtain ⟨x, y⟩ := p
    match x with
    | [] => rfl
    | [_] => rfl
    | [_, _] => rfl
    | [_, _, _] => rfl
    | _ :: _ :: _ :: _ :: _ => rfl
@[simp] theorem s_evDrop : evDrop e ρ μ = kDrop ρ (e ρ μ) := by unfold evDrop; cases h : e ρ μ <;> rfl
@[simp] theorem s_evRet : evRet e ρ μ = kRet ρ (e ρ μ) := by unfold evRet; cases h : e ρ μ <;> rfl
@[simp] theorem s_evIfS : evIfS t s1 s2 ρ μ = kIfS s1 s2 ρ (t ρ μ) := by unfold evIfS; cases h : t ρ μ <;> rfl
@[simp] theorem s_evAug : evAug i f e ρ μ = kAug i f e ρ μ ρ[i]? := by
  unfold evAug
  cases h : ρ[i]? with
  | none => rfl
  | some o =>
    cases o with
    | none => rfl
    | some x =>
      show ((e ρ μ).bind fun p => (f x p.1 p.2).map fun q => (Fl.nx, ρ.set i (some q.1), q.2)) = kAug1 i f x ρ (e ρ μ)
      cases h2 : e ρ μ with
      | none => rfl
      | some p =>
        show ((f x p.1 p.2).map fun q => (Fl.nx, ρ.set i (some q.1), q.2)) = kAug2 i ρ (f x p.1 p.2)
        cases h3 : f x p.1 p.2 <;> rfl
@[simp] theorem s_egName : egName i d ρ μ = some (ρ.set i (some d), μ) := rfl
@[simp] theorem s_egNil : egNil [] ρ μ = some (ρ, μ) := rfl
@[simp] theorem s_egCons {ds : List D} : egCons eg gs (d :: ds) ρ μ = kEg gs ds (eg d ρ μ) := by
  show (eg d ρ μ).bind _ = _
  cases h : eg d ρ μ <;> rfl
@[simp] theorem s_egTup {n : Nat} {ds : List D} : egTup n gs (.tup ds) ρ μ = if ds.length = n then gs ds ρ μ else none := rfl
@[simp] theorem s_egSub {h : D → D → D → Store → Option Store} : egSub h a b d ρ μ = kSub h b d ρ (a ρ μ) := by
  unfold egSub
  cases h1 : a ρ μ with
  | none => rfl
  | some p =>
    show _ = kSub2 h p.1 d ρ (b ρ p.2)
    simp only [Option.bind_some]
    cases h2 : b ρ p.2 with
    | none => rfl
    | some q =>
      show ((h p.1 q.1 d q.2).map fun μ' => (ρ, μ')) = kSub3 ρ (h p.1 q.1 d q.2)
      cases h3 : h p.1 q.1 d q.2 <;> rfl
@[simp] theorem s_eiSeq : eiSeq a ρ μ = kSeqJ (a ρ μ) := by
  unfold eiSeq
  cases h : a ρ μ with
  | none => rfl
  | some p =>
    obtain ⟨x, y⟩ := p
    cases x with
    | loc n =>
      show (match y[n]? with | some (.lst _) => some (rdLoc n, y) | _ => none) = kSeqI y n y[n]?
      cases h2 : y[n]? with
      | none => rfl
      | some o => cases o <;> rfl
    | _ => rfl
@[simp] theorem s_eiTup : eiTup a ρ μ = kTupI (a ρ μ) := by unfold eiTup; cases h : a ρ μ with | none => rfl | some p => (obtain ⟨x, y⟩ := p; cases x <;> rfl)
@[simp] theorem s_eiStr : eiStr a ρ μ = kStrI (a ρ μ) := by unfold eiStr; cases h : a ρ μ with | none => rfl | some p => (obtain ⟨x, y⟩ := p; cases x <;> rfl)
@[simp] theorem s_eiRange : eiRange as ρ μ = kRanI (as ρ μ) := by
  unfold eiRange
  cases h : as ρ μ with
  | none => rfl
  | some p =>
    obtain ⟨x, y⟩ := p
    match x with
    | [] => rfl
    | [z] => cases z <;> rfl
    | z :: _ :: _ => cases z <;> rfl
@[simp] theorem s_eiEnum : eiEnum as ρ μ = kEnuI (as ρ μ) := by
  unfold eiEnum
  cases h : as ρ μ with
  | none => rfl
  | some p =>
    obtain ⟨x, y⟩ := p
    match x with
    | [] => rfl
    | [z] =>
      cases z with
      | loc n =>
        show (match y[n]? with | some (.lst _) => some (rdEnum n, y) | _ => none) = kEnuJ y n y[n]?
        cases h2 : y[n]? with
        | none => rfl
        | some o => cases o <;> rfl
      | _ => rfl
    | z :: _ :: _ => cases z <;> rfl
@[simp] theorem s_eiKeys {tab : List (Str × D)} : eiKeys tab ρ μ = some (rdList (tab.map fun p => .str p.1), μ) := rfl
@[simp] theorem s_evYes : evYes ρ μ = some (true, μ) := rfl
@[simp] theorem s_egC1 : egC1 i d ρ = some (ρ.set i (some d)) := rfl
@[simp] theorem s_egC2 {j : Nat} {x y : D} : egC2 i j (.tup [x, y]) ρ = some ((ρ.set i (some x)).set j (some y)) := rfl
@[simp] theorem s_wipe0 : wipeD ρ [] = ρ := rfl
@[simp] theorem s_wipe1 {v : Nat} {vs : List Nat} : wipeD ρ (v :: vs) = (wipeD ρ vs).set v none := rfl
@[simp] theorem s_runF {N : List Str} {n : Nat} {ev : EvS} {ds : List D} : runF N ev n ds μ = if ds.length = n then kRun (ev (startD N ds) μ) else none := by
  unfold runF
  split
  · cases h : ev (startD N ds) μ with | none => rfl | some p => (obtain ⟨x, y, z⟩ := p; cases x <;> rfl)
  · rfl
@[simp] theorem s_evComp {it : EvI} {cg : D → Env → Option Env} {vs : List Nat} : evComp it cg t e vs ρ μ = kComp cg t e (wipeD ρ vs) (it ρ μ) := by
  unfold evComp
  cases h : it ρ μ <;> rfl
end
theorem fuel_eq : FUEL = 1073741824 := Classical.choose_spec fuel_ex
theorem size_eq : sizeLine = 16777216 := by decide
/-! ### leavings -/
open Classical in
noncomputable def trim0 (m : List D → Store → Option (D × Store)) (ds : List D) (μ : Store) : Option (D × Store) := match m ds μ with
  | some (d, μ1) => if locB 0 d = true ∧ ∃ ex, μ1 = μ ++ ex then some (d, μ) else none
  | none => none
theorem trim0_eq {m : List D → Store → Option (D × Store)} {ds : List D} {μ ex : Store} {d : D} (h : m ds μ = some (d, μ ++ ex)) (hd : locB 0 d = true := by rfl) : trim0 m ds μ = some (d, μ) := by
  unfold trim0
  rw [h]
  exact if_pos ⟨hd, ex, rfl⟩
theorem trim0_of {m : List D → Store → Option (D × Store)} {ds : List D} {μ μ1 : Store} {d : D} (h : trim0 m ds μ = some (d, μ1)) : μ1 = μ ∧ locB 0 d = true ∧ ∃ ex, m ds μ = some (d, μ ++ ex) := by
  unfold trim0 at h
  split at h
  · rename_i d' μ2 e
    split at h
    · rename_i hc
      cases h
      obtain ⟨h1, ex, rfl⟩ := hc
      exact ⟨rfl, h1, ex, e⟩
    · cases h
  · cases h
theorem gc_trim0 {n : Nat} {m : List D → Store → Option (D × Store)} : Gc n m (trim0 m) := fun ds μ d μ1 hl hb hm e => by
  obtain ⟨rfl, h1, ex, h2⟩ := trim0_of e
  exact ⟨ex, h2, Nat.le_refl _, locB_le (Nat.zero_le _) _ h1, hm⟩
theorem Has.trim {P : Program} {w : World} {K : PySem.W.Frag} {mg : Str → Option Value} {base : Heap} {k : Nat} {x : Str} {ps : List Str} {m : List D → Store → Option (D × Store)} (F : Has P w K mg base k x ps m) : Has P w K mg base k x ps (trim0 m) := by
  have hn := F.1
  refine F.gc (fun ds μ r e => ?_) gc_trim0
  obtain ⟨d, μ1⟩ := r
  obtain ⟨_, _, ex, h⟩ := trim0_of e
  exact hn ds μ _ h
/-! ### loops -/
theorem comp_gen {rd : Rd1} {g : D → Env → Option Env} {t : EvT} {e : Ev} {n : Nat} {ρ : Env} (N : Nat) (I : Nat → List D → Store → Prop) (R : List D → Store → Prop)
    (step : ∀ i acc μ, I i acc μ → i ≤ N ∧ ((rd i μ = some none ∧ R acc μ) ∨ (i < N ∧ ∃ d ρ1 b μ1, rd i μ = some (some d) ∧ g d ρ = some ρ1 ∧ t ρ1 μ = some (b, μ1) ∧ (b = false → I (i + 1) acc μ1) ∧
      (b = true → ∃ d2 μ2, e ρ1 μ1 = some (d2, μ2) ∧ μ2[n]? = some (.lst acc) ∧ acc.length < sizeLine ∧ I (i + 1) (acc ++ [d2]) (μ2.set n (.lst (acc ++ [d2]))))))) :
    ∀ (f i : Nat) (acc : List D) (μ : Store), N < i + f → I i acc μ → ∃ acc' μ', compN rd g t e n f i ρ μ = some μ' ∧ R acc' μ'
  | 0, i, acc, μ, hf, h => by
    have := (step i acc μ h).1
    omega
  | f + 1, i, acc, μ, hf, h => by
    unfold compN
    rcases (step i acc μ h).2 with ⟨h1, h2⟩ | ⟨h1, d, ρ1, b, μ1, h2, h3, h4, h5, h6⟩
    · rw [h1]
      exact ⟨acc, μ, rfl, h2⟩
    · rw [h2]
      simp only [h3, h4, Option.bind_some]
      cases b with
      | false => exact comp_gen N I R step f (i + 1) acc μ1 (by omega) (h5 rfl)
      | true =>
        obtain ⟨d2, μ2, h7, h8, h9, h10⟩ := h6 rfl
        simp only [h7, h8, h9, if_true, Option.bind_some]
        exact comp_gen N I R step f (i + 1) _ _ (by omega) h10
theorem get_last {μ : Store} {o : MO} {r : Store} : (μ ++ o :: r)[μ.length]? = some o := by
  rw [List.getElem?_append_right (Nat.le_refl _), Nat.sub_self]
  rfl
theorem set_last {μ : Store} {o o' : MO} {r : Store} : (μ ++ o :: r).set μ.length o' = μ ++ o' :: r := by
  rw [List.set_append_right _ _ (Nat.le_refl _), Nat.sub_self]
  rfl
/-- a comprehension without leavings -/
theorem comp_list {rd : Rd1} {g : D → Env → Option Env} {t : EvT} {e : Ev} {ρ : Env} (xs : List D) (μ0 : Store) (fb : D → Bool) (ff : D → D) (hrd : ∀ (i : Nat) (acc : List D) (ex : Store), rd i (μ0 ++ .lst acc :: ex) = some xs[i]?) (hl : xs.length < sizeLine)
    (h : ∀ (i : Nat) (d : D), xs[i]? = some d → ∃ ρ1, g d ρ = some ρ1 ∧ ∀ acc ex, (t ρ1 (μ0 ++ .lst acc :: ex) = some (fb d, μ0 ++ .lst acc :: ex)) ∧ (fb d = true → ∃ ex', e ρ1 (μ0 ++ .lst acc :: ex) = some (ff d, μ0 ++ .lst acc :: ex'))) :
    ∃ ex, compN rd g t e μ0.length FUEL 0 ρ (μ0 ++ [.lst []]) = some (μ0 ++ .lst ((xs.filter fb).map ff) :: ex) := by
  have hF : xs.length < 0 + FUEL := by
    rw [fuel_eq]
    rw [size_eq] at hl
    omega
  obtain ⟨acc', μ', h1, h2⟩ := comp_gen (rd := rd) (g := g) (t := t) (e := e) (n := μ0.length) (ρ := ρ) xs.length
    (fun i acc μ => i ≤ xs.length ∧ acc = ((xs.take i).filter fb).map ff ∧ ∃ ex, μ = μ0 ++ .lst acc :: ex) (fun acc μ => ∃ ex, μ = μ0 ++ .lst ((xs.filter fb).map ff) :: ex)
    (fun i acc μ ⟨hi, ha, ex, hm⟩ => ⟨hi, by
      subst hm
      cases q : xs[i]? with
      | none =>
        have hi2 : xs.length ≤ i := List.getElem?_eq_none_iff.mp q
        refine .inl ⟨by rw [hrd, q], ex, ?_⟩
        rw [ha, List.take_of_length_le hi2]
      | some d =>
        have hi2 : i < xs.length := (List.getElem?_eq_some_iff.mp q).1
        obtain ⟨ρ1, h1, h2⟩ := h i d q
        obtain ⟨h3, h4⟩ := h2 acc ex
        have et : xs.take (i + 1) = xs.take i ++ [d] := by rw [List.take_add_one, q]; rfl
        refine .inr ⟨hi2, d, ρ1, fb d, _, by rw [hrd, q], h1, h3, fun hb => ⟨hi2, ?_, ex, rfl⟩, fun hb => ?_⟩
        · rw [et, List.filter_append, ha]
          simp [hb]
        · obtain ⟨ex', h5⟩ := h4 hb
          refine ⟨ff d, _, h5, get_last, ?_, hi2, ?_, ex', set_last⟩
          · have : acc.length ≤ xs.length := by
              rw [ha, List.length_map]
              exact Nat.le_trans (List.length_filter_le _ _) (by rw [List.length_take]; omega)
            omega
          · rw [et, List.filter_append, List.map_append, ha]
            simp [hb]⟩)
    FUEL 0 [] (μ0 ++ [.lst []]) hF ⟨Nat.zero_le _, rfl, [], rfl⟩
  obtain ⟨ex, rfl⟩ := h2
  exact ⟨ex, h1⟩
theorem for_gen {rd : Rd1} {g : EvG} {b : EvS} (N : Nat) (I : Nat → Env → Store → Prop) (R : Fl × Env × Store → Prop)
    (step : ∀ i ρ μ, I i ρ μ → i ≤ N ∧ ((rd i μ = some none ∧ R (.nx, ρ, μ)) ∨ (i < N ∧ ∃ d ρ1 μ1 f ρ2 μ2, rd i μ = some (some d) ∧ g d ρ μ = some (ρ1, μ1) ∧ b ρ1 μ1 = some (f, ρ2, μ2) ∧
      (match f with
        | .nx => I (i + 1) ρ2 μ2
        | .ct => I (i + 1) ρ2 μ2
        | .bk => R (.nx, ρ2, μ2)
        | .rt d => R (.rt d, ρ2, μ2))))) :
    ∀ (f i : Nat) (ρ : Env) (μ : Store), N < i + f → I i ρ μ → ∃ r, forN rd g b f i ρ μ = some r ∧ R r
  | 0, i, ρ, μ, hf, h => by
    have := (step i ρ μ h).1
    omega
  | f + 1, i, ρ, μ, hf, h => by
    unfold forN
    rcases (step i ρ μ h).2 with ⟨h1, h2⟩ | ⟨h1, d, ρ1, μ1, fl, ρ2, μ2, h2, h3, h4, h5⟩
    · rw [h1]
      exact ⟨_, rfl, h2⟩
    · rw [h2]
      simp only [h3, h4, Option.bind_some]
      cases fl with
      | nx => exact for_gen N I R step f (i + 1) _ _ (by omega) h5
      | ct => exact for_gen N I R step f (i + 1) _ _ (by omega) h5
      | bk => exact ⟨_, rfl, h5⟩
      | rt d => exact ⟨_, rfl, h5⟩
theorem for_run {it : EvI} {g : EvG} {b : EvS} {ρ : Env} {μ μ1 : Store} {rd : Rd1} (N : Nat) (I : Nat → Env → Store → Prop) (R : Fl × Env × Store → Prop) (hit : it ρ μ = some (rd, μ1)) (hN : N < 1000000000) (h0 : I 0 ρ μ1)
    (step : ∀ i ρ μ, I i ρ μ → i ≤ N ∧ ((rd i μ = some none ∧ R (.nx, ρ, μ)) ∨ (i < N ∧ ∃ d ρ1 μ1 f ρ2 μ2, rd i μ = some (some d) ∧ g d ρ μ = some (ρ1, μ1) ∧ b ρ1 μ1 = some (f, ρ2, μ2) ∧
      (match f with
        | .nx => I (i + 1) ρ2 μ2
        | .ct => I (i + 1) ρ2 μ2
        | .bk => R (.nx, ρ2, μ2)
        | .rt d => R (.rt d, ρ2, μ2))))) : ∃ r, evFor it g b ρ μ = some r ∧ R r := by
  unfold evFor
  rw [hit, Option.bind_some]
  exact for_gen N I R step FUEL 0 ρ μ1 (by rw [fuel_eq]; omega) h0
theorem while_gen {t : EvT} {b : EvS} (I : Nat → Env → Store → Prop) (R : Fl × Env × Store → Prop)
    (step : ∀ m ρ μ, I m ρ μ → ∃ c μ1, t ρ μ = some (c, μ1) ∧ (c = false → R (.nx, ρ, μ1)) ∧ (c = true → ∃ f ρ2 μ2, b ρ μ1 = some (f, ρ2, μ2) ∧
      (match f with
        | .nx => ∃ k, k < m ∧ I k ρ2 μ2
        | .ct => ∃ k, k < m ∧ I k ρ2 μ2
        | .bk => R (.nx, ρ2, μ2)
        | .rt d => R (.rt d, ρ2, μ2)))) :
    ∀ (f m : Nat) (ρ : Env) (μ : Store), m < f → I m ρ μ → ∃ r, whileN t b f ρ μ = some r ∧ R r
  | 0, m, ρ, μ, hf, h => by omega
  | f + 1, m, ρ, μ, hf, h => by
    unfold whileN
    obtain ⟨c, μ1, h1, h2, h3⟩ := step m ρ μ h
    rw [h1]
    cases c with
    | false => exact ⟨_, rfl, h2 rfl⟩
    | true =>
      obtain ⟨fl, ρ2, μ2, h4, h5⟩ := h3 rfl
      simp only [h4, Option.bind_some, if_true]
      cases fl with
      | nx =>
        obtain ⟨k, hk, h6⟩ := h5
        exact while_gen I R step f k _ _ (by omega) h6
      | ct =>
        obtain ⟨k, hk, h6⟩ := h5
        exact while_gen I R step f k _ _ (by omega) h6
      | bk => exact ⟨_, rfl, h5⟩
      | rt d => exact ⟨_, rfl, h5⟩
theorem while_run {t : EvT} {b : EvS} {ρ : Env} {μ : Store} (m : Nat) (I : Nat → Env → Store → Prop) (R : Fl × Env × Store → Prop) (hm : m < 1000000000) (h0 : I m ρ μ)
    (step : ∀ m ρ μ, I m ρ μ → ∃ c μ1, t ρ μ = some (c, μ1) ∧ (c = false → R (.nx, ρ, μ1)) ∧ (c = true → ∃ f ρ2 μ2, b ρ μ1 = some (f, ρ2, μ2) ∧
      (match f with
        | .nx => ∃ k, k < m ∧ I k ρ2 μ2
        | .ct => ∃ k, k < m ∧ I k ρ2 μ2
        | .bk => R (.nx, ρ2, μ2)
        | .rt d => R (.rt d, ρ2, μ2)))) : ∃ r, evWhile t b ρ μ = some r ∧ R r :=
  while_gen I R step FUEL m ρ μ (by rw [fuel_eq]; omega) h0
end PDL
set_option Elab.async false
set_option linter.all false
set_option maxRecDepth 100000
/-! PT: texts as lists of signs. -/
namespace PDL
open PySem PySem.Spec PyProof.Rows L2 SX
theorem ofS_inj (a b : String) : (Str.ofString a = Str.ofString b) = (a = b) := by
  apply propext
  constructor
  · intro h
    rw [Str.ofString_eq_toList, Str.ofString_eq_toList] at h
    have h2 : a.toList.map Char.toNat = b.toList.map Char.toNat := S_inj h
    have h3 : a.toList = b.toList := by
      have inj : Function.Injective Char.toNat := fun x y e => Char.ext (UInt32.toNat_inj.mp e)
      exact (List.map_inj_right inj).mp h2
    exact String.toList_inj.mp h3
  · rintro rfl
    rfl
theorem ofS_beq (a b : String) : (Str.ofString a == Str.ofString b) = decide (a = b) := by
  by_cases h : a = b
  · subst h
    simp
  · rw [decide_eq_false h]
    exact beq_eq_false_iff_ne.mpr fun e => h ((ofS_inj a b).mp e)
theorem S_eq {a b : List Nat} : (S a = S b) = (a = b) := propext ⟨S_inj, fun h => by rw [h]⟩
theorem S_beq' (a b : List Nat) : (S a == S b) = decide (a = b) := S_beq_eq
theorem strOk_S {l : List Nat} (h : ∀ c ∈ l, c < 128) : PyData.strOk (S l) = true := by
  unfold PyData.strOk
  rw [← Array.all_toList]
  exact List.all_eq_true.mpr fun c hc => decide_eq_true (Nat.lt_trans (h c hc) (by decide))
/-! ### numbers -/
def showL (i : Int) : List Nat := (Str.ofString (toString i)).cps.toList
theorem show_S (i : Int) : Str.ofString (toString i) = S (showL i) := (S_tl _).symm
theorem showL_nat (n : Nat) : showL (n : Int) = TL.numL n := TL.tl_num n
theorem showL_neg (n : Nat) : showL (Int.negSucc n) = 45 :: TL.numL (n + 1) := by
  unfold showL
  rw [PyProof.Rows.signs_ofString]
  show ("-" ++ Nat.repr (n + 1)).toList.map Char.toNat = _
  rw [String.toList_append, List.map_append, Nat.toList_repr]
  rfl
theorem showL_signs {i : Int} {c : Nat} (h : c ∈ showL i) : c = 45 ∨ (48 ≤ c ∧ c ≤ 57) := by
  cases i with
  | ofNat n =>
    rw [show showL (Int.ofNat n) = TL.numL n from showL_nat n] at h
    exact .inr (TL.numL_digits n c h)
  | negSucc n =>
    rw [showL_neg] at h
    rcases List.mem_cons.mp h with h | h
    · exact .inl h
    · exact .inr (TL.numL_digits _ c h)
theorem showL_ne (i : Int) : showL i ≠ [] := by
  cases i with
  | ofNat n =>
    rw [show showL (Int.ofNat n) = TL.numL n from showL_nat n]
    exact TL.numL_ne n
  | negSucc n => rw [showL_neg]; simp
theorem showL_len {i : Int} (h : i.natAbs < 10 ^ 20) : (showL i).length ≤ 21 := by
  cases i with
  | ofNat n =>
    rw [show showL (Int.ofNat n) = TL.numL n from showL_nat n]
    have := TL.numL_len (n := n) (k := 20) (by decide) h
    omega
  | negSucc n =>
    rw [showL_neg, List.length_cons]
    have := TL.numL_len (n := n + 1) (k := 20) (by decide) h
    omega
theorem showL_read {i : Int} (h : i.natAbs < 10 ^ 20) : PySem.intText? (S (showL i)) = some i := by
  have hl := showL_len h
  cases i with
  | ofNat n =>
    rw [show showL (Int.ofNat n) = TL.numL n from showL_nat n] at hl ⊢
    have e := PySem.intText_digits (x := S (TL.numL n)) (TL.numL_digits n) (TL.numL_ne n) (by rw [S_len]; omega)
    rw [e]
    exact congrArg (fun k : Nat => some (k : Int)) (TL.numL_val n)
  | negSucc n =>
    rw [showL_neg] at hl ⊢
    have e := PySem.intText_neg (x := S (45 :: TL.numL (n + 1))) (cs := TL.numL (n + 1)) rfl (TL.numL_digits _) (TL.numL_ne _) (by rw [S_len]; omega)
    rw [e]
    have e2 : NumText.digitsVal (TL.numL (n + 1)) = n + 1 := TL.numL_val _
    rw [e2]
    rfl
theorem showL_inj {i j : Int} (h : showL i = showL j) (hi : i.natAbs < 10 ^ 20) (hj : j.natAbs < 10 ^ 20) : i = j := by
  have a := showL_read hi
  rw [h, showL_read hj] at a
  exact (Option.some.inj a).symm
theorem log_ok {i : Int} (h : i.natAbs < 10 ^ 20) : i.natAbs.log2 < 1920 := by
  by_cases z : i.natAbs = 0
  · rw [z]; decide
  · have h1 := Nat.log2_self_le z
    have : i.natAbs.log2 < 100 := by
      rcases Nat.lt_or_ge i.natAbs.log2 100 with q | q
      · exact q
      · have h2 : 2 ^ 100 ≤ 2 ^ i.natAbs.log2 := Nat.pow_le_pow_right (by decide) q
        have : (2 : Nat) ^ 100 ≥ 10 ^ 20 := by decide
        omega
    omega
theorem dStr_S {i : Int} (h : i.natAbs < 10 ^ 20) (μ : Store) : dStr [.int i] μ = some (.str (S (showL i)), μ) := by
  show (if i.natAbs.log2 < 1920 then some (D.str (Str.ofString (toString i)), μ) else none) = _
  rw [if_pos (log_ok h), show_S]
/-! ### pieces -/
theorem sIx_nn (n d k : Nat) : HT.sIx n d (some (k : Int)) = min k n := HT.sIx_nat n d k
theorem take_min {α : Type} (l : List α) (k : Nat) : l.take (min k l.length) = l.take k := by
  rcases Nat.le_total k l.length with h | h
  · rw [Nat.min_eq_left h]
  · rw [Nat.min_eq_right h, List.take_of_length_le (Nat.le_refl _), List.take_of_length_le h]
theorem drop_min {α : Type} (l : List α) (k : Nat) : l.drop (min k l.length) = l.drop k := by
  rcases Nat.le_total k l.length with h | h
  · rw [Nat.min_eq_left h]
  · rw [Nat.min_eq_right h, List.drop_of_length_le (Nat.le_refl _), List.drop_of_length_le h]
theorem piece {α : Type} (l : List α) (a b : Nat) : (l.drop (min a l.length)).take (min b l.length - min a l.length) = (l.drop a).take (b - a) := by
  rw [drop_min]
  rcases Nat.le_total l.length a with h | h
  · rw [List.drop_of_length_le h, List.take_nil, List.take_nil]
  · rw [Nat.min_eq_left h]
    rcases Nat.le_total b l.length with h2 | h2
    · rw [Nat.min_eq_left h2]
    · rw [Nat.min_eq_right h2, List.take_of_length_le (by rw [List.length_drop]; omega), List.take_of_length_le (by rw [List.length_drop]; omega)]
theorem cut_ab (l : List Nat) (a b : Nat) : cutS (S l) (some (a : Int)) (some (b : Int)) = S ((l.drop a).take (b - a)) := by
  unfold cutS
  rw [sIx_nn, sIx_nn, S_len]
  exact congrArg S (piece l a b)
theorem cut_a (l : List Nat) (a : Nat) : cutS (S l) (some (a : Int)) none = S (l.drop a) := by
  unfold cutS
  rw [sIx_nn, HT.sIx_none, S_len]
  refine congrArg S ?_
  show (l.drop (min a l.length)).take (l.length - min a l.length) = l.drop a
  rw [drop_min, List.take_of_length_le]
  rw [List.length_drop]
  omega
theorem cut_b (l : List Nat) (b : Nat) : cutS (S l) none (some (b : Int)) = S (l.take b) := by
  unfold cutS
  rw [sIx_nn, HT.sIx_none, S_len]
  refine congrArg S ?_
  show (l.drop 0).take (min b l.length - 0) = l.take b
  rw [List.drop_zero, Nat.sub_zero, take_min]
theorem cutD_ab (l : List D) (a b : Nat) : cutD l (some (a : Int)) (some (b : Int)) = (l.drop a).take (b - a) := by
  unfold cutD
  rw [sIx_nn, sIx_nn]
  exact piece l a b
theorem cutD_a (l : List D) (a : Nat) : cutD l (some (a : Int)) none = l.drop a := by
  unfold cutD
  rw [sIx_nn, HT.sIx_none, drop_min, List.take_of_length_le]
  rw [List.length_drop]
  omega
theorem cutD_b (l : List D) (b : Nat) : cutD l none (some (b : Int)) = l.take b := by
  unfold cutD
  rw [sIx_nn, HT.sIx_none, List.drop_zero, Nat.sub_zero, take_min]
theorem sIx_m1 (n d : Nat) : HT.sIx n d (some (-1)) = n - 1 := by
  show (if (-1 : Int) < 0 then ((-1 : Int) + (n : Int)).toNat else min (-1 : Int).toNat n) = n - 1
  rw [if_pos (by decide)]
  omega
theorem cutD_last (l : List D) : cutD l none (some (-1)) = l.dropLast := by
  unfold cutD
  rw [sIx_m1, HT.sIx_none, List.drop_zero, Nat.sub_zero, List.dropLast_eq_take]
theorem cutD_mid (l : List D) (h : 1 ≤ l.length) : cutD l (some 1) (some (-1)) = (l.drop 1).dropLast := by
  unfold cutD
  rw [sIx_m1, show HT.sIx l.length 0 (some 1) = min 1 l.length from sIx_nn l.length 0 1, List.dropLast_eq_take, Nat.min_eq_left h, List.length_drop]
theorem atI_nat {α : Type} (xs : List α) (i : Nat) : atI xs (i : Int) = xs[i]? := by
  unfold atI ixN
  rw [if_pos (Int.natCast_nonneg _)]
  by_cases h : i < xs.length
  · rw [if_pos (by omega)]
    rfl
  · rw [if_neg (by omega), List.getElem?_eq_none (by omega)]
    rfl
theorem atI_last {α : Type} (xs : List α) : atI xs (-1) = xs[xs.length - 1]? := by
  unfold atI ixN
  rw [if_neg (by decide)]
  by_cases h : xs = []
  · subst h; rfl
  · have : 0 < xs.length := List.length_pos_iff.mpr h
    rw [if_pos (by omega)]
    show xs[((-1 : Int) + (xs.length : Int)).toNat]? = _
    congr 1
    omega
/-! ### find -/
theorem getD_S (l : List Nat) (k : Nat) : (S l).cps.getD k 0 = l.getD k 0 := by
  simp [S, Array.getD_eq_getD_getElem?, List.getD_eq_getElem?_getD]
theorem find_from (l : List Nat) (c a : Nat) (ha : a ≤ l.length) :
    (Txt.find3 (S l) (S [c]) (a : Int) = -1 ∧ c ∉ l.drop a) ∨ ∃ p q, l.drop a = p ++ c :: q ∧ c ∉ p ∧ Txt.find3 (S l) (S [c]) (a : Int) = ((a + p.length : Nat) : Int) := by
  have hf : PySem.fromIndex (S l).length (a : Int) = a := by
    unfold PySem.fromIndex
    split <;> omega
  rcases PySem.StrLaws.find3_spec (S l) c (a : Int) with ⟨h1, h2⟩ | ⟨k, h1, h2, h3, h4, h5⟩
  · refine .inl ⟨h1, fun hm => ?_⟩
    obtain ⟨j, hj⟩ := List.getElem?_of_mem hm
    have hjl : j < (l.drop a).length := (List.getElem?_eq_some_iff.mp hj).1
    rw [List.length_drop] at hjl
    rw [List.getElem?_drop] at hj
    have e := h2 (a + j) (by rw [hf]; omega) (by rw [S_len]; omega)
    rw [getD_S, List.getD_eq_getElem?_getD, hj] at e
    exact e rfl
  · rw [hf] at h2 h5
    rw [S_len] at h3
    rw [getD_S] at h4
    have hak : a ≤ k := by omega
    refine .inr ⟨(l.drop a).take (k - a), l.drop (k + 1), ?_, ?_, ?_⟩
    · have e1 : l.drop k = c :: l.drop (k + 1) := by
        rw [List.drop_eq_getElem_cons h3]
        congr 1
        rw [List.getD_eq_getElem?_getD, List.getElem?_eq_getElem h3] at h4
        exact h4
      rw [← e1]
      have e2 : l.drop k = (l.drop a).drop (k - a) := by
        rw [List.drop_drop]
        congr 1
        omega
      rw [e2, List.take_append_drop]
    · intro hm
      obtain ⟨j, hj⟩ := List.getElem?_of_mem hm
      have hjl : j < ((l.drop a).take (k - a)).length := (List.getElem?_eq_some_iff.mp hj).1
      rw [List.length_take, List.length_drop] at hjl
      rw [List.getElem?_take_of_lt (by omega), List.getElem?_drop] at hj
      have e := h5 (a + j) (by omega) (by omega)
      rw [getD_S, List.getD_eq_getElem?_getD, hj] at e
      exact e rfl
    · rw [h1, List.length_take, List.length_drop]
      congr 1
      omega
end PDL
set_option Elab.async false
set_option linter.all false
set_option maxRecDepth 100000
/-! PV: values of the operations, for simp. -/
namespace PDL
open PySem PySem.Spec PyProof.Rows L2 SX
theorem strOk_ofS (x : String) : PyData.strOk (Str.ofString x) = true := by
  rw [Str.ofString_eq_toList]
  unfold PyData.strOk
  rw [← Array.all_toList]
  refine List.all_eq_true.mpr fun c hc => ?_
  obtain ⟨ch, _, rfl⟩ := List.mem_map.mp hc
  have h := ch.valid
  simp only [UInt32.isValidChar, Nat.isValidChar] at h
  have e : ch.toNat = ch.val.toNat := rfl
  rw [e]
  exact decide_eq_true (by omega)
section
variable {μ : Store} {neg : Bool} {xs ys : List D} {i j : Int} {a b : Str} {n : Nat} {p q : Bool} {l : List Nat} {d e : D}
@[simp] theorem atI_z {α : Type} (xs : List α) : atI xs 0 = xs[0]? := atI_nat xs 0
@[simp] theorem atI_o {α : Type} (xs : List α) : atI xs 1 = xs[1]? := atI_nat xs 1
@[simp] theorem atI_2 {α : Type} (xs : List α) : atI xs 2 = xs[2]? := atI_nat xs 2
@[simp] theorem atI_3 {α : Type} (xs : List α) : atI xs 3 = xs[3]? := atI_nat xs 3
@[simp] theorem atI_4 {α : Type} (xs : List α) : atI xs 4 = xs[4]? := atI_nat xs 4
@[simp] theorem atI_m {α : Type} (xs : List α) : atI xs (-1) = xs[xs.length - 1]? := atI_last xs
@[simp] theorem v_ix_tup : dIx (.tup xs) (.int i) μ = (atI xs i).map fun d => (d, μ) := rfl
@[simp] theorem v_ix_rl : dIx (.rl xs) (.int i) μ = (atI xs i).map fun d => (d, μ) := rfl
theorem v_ix_loc (h : μ[n]? = some (.lst xs)) : dIx (.loc n) (.int i) μ = (atI xs i).map fun d => (d, μ) := by
  show (match μ[n]? with
    | some (MO.lst xs) => (atI xs i).map fun d => (d, μ)
    | _ => none) = _
  rw [h]
theorem v_ix_str (h : l.length ≤ sizeLine) : dIx (.str (S l)) (.int i) μ = (atI l i).map fun c => (.str (S [c]), μ) := by
  show (if (S l).length ≤ sizeLine then (atI (S l).cps.toList i).map fun c => (D.str ⟨#[c]⟩, μ) else none) = _
  rw [if_pos (by rw [S_len]; exact h)]
@[simp] theorem v_len_tup : dLen [.tup xs] μ = some (.int xs.length, μ) := rfl
@[simp] theorem v_len_rl : dLen [.rl xs] μ = some (.int xs.length, μ) := rfl
theorem v_len_str (h : l.length ≤ sizeLine) : dLen [.str (S l)] μ = some (.int l.length, μ) := by
  show (if (S l).length ≤ sizeLine then some (D.int (S l).length, μ) else none) = _
  rw [if_pos (by rw [S_len]; exact h), S_len]
theorem v_len_loc (h : μ[n]? = some (.lst xs)) : dLen [.loc n] μ = some (.int xs.length, μ) := by
  show (match μ[n]? with
    | some (MO.lst xs) => some (D.int xs.length, μ)
    | _ => none) = _
  rw [h]
@[simp] theorem v_eq_int : dEqv neg (.int i) (.int j) μ = some (if neg then !decide (i = j) else decide (i = j)) := by
  show (if PyData.canLay0 (.int i) = true ∧ PyData.canLay0 (.int j) = true ∧ min (PyData.depth (.int i)) (PyData.depth (.int j)) ≤ 64 then some (if neg then !PyData.eqv (.int i) (.int j) else PyData.eqv (.int i) (.int j)) else none) = _
  rw [if_pos ⟨rfl, rfl, Nat.zero_le _⟩]
  rfl
theorem v_eq_str (ha : PyData.strOk a = true) (hb : PyData.strOk b = true) : dEqv neg (.str a) (.str b) μ = some (if neg then !decide (a = b) else decide (a = b)) := by
  show (if PyData.canLay0 (.str a) = true ∧ PyData.canLay0 (.str b) = true ∧ min (PyData.depth (.str a)) (PyData.depth (.str b)) ≤ 64 then some (if neg then !PyData.eqv (.str a) (.str b) else PyData.eqv (.str a) (.str b)) else none) = _
  rw [if_pos ⟨ha, hb, Nat.zero_le _⟩]
  have e : PyData.eqv (.str a) (.str b) = decide (a = b) := by
    show (a == b) = decide (a = b)
    by_cases h : a = b
    · rw [decide_eq_true h, h]; exact beq_self_eq_true b
    · rw [decide_eq_false h]; exact beq_eq_false_iff_ne.mpr h
  rw [e]
@[simp] theorem v_eq_ofS (x y : String) : dEqv neg (.str (Str.ofString x)) (.str (Str.ofString y)) μ = some (if neg then !decide (x = y) else decide (x = y)) := by
  rw [v_eq_str (strOk_ofS x) (strOk_ofS y)]
  simp only [ofS_inj]
theorem v_eq_S {l m : List Nat} (hl : ∀ c ∈ l, c < 128) (hm : ∀ c ∈ m, c < 128) : dEqv neg (.str (S l)) (.str (S m)) μ = some (if neg then !decide (l = m) else decide (l = m)) := by
  rw [v_eq_str (strOk_S hl) (strOk_S hm)]
  simp only [S_eq]
/-- == by data -/
theorem v_eq {p q : PyData} (h1 : py μ d = some p) (h2 : py μ e = some q) (c1 : p.canLay0 = true) (c2 : q.canLay0 = true) (c3 : min p.depth q.depth ≤ 64) : dEqv neg d e μ = some (if neg then !PyData.eqv p q else PyData.eqv p q) := by
  unfold dEqv
  rw [h1, h2]
  exact if_pos ⟨c1, c2, c3⟩
@[simp] theorem v_le_int : dLe (.int i) (.int j) μ = some (decide (i ≤ j)) := rfl
@[simp] theorem v_lt_int : dLt (.int i) (.int j) μ = some (decide (i < j)) := rfl
@[simp] theorem v_gt_int : dGt (.int i) (.int j) μ = some (decide (j < i)) := rfl
@[simp] theorem v_ge_int : dGe (.int i) (.int j) μ = some (decide (j ≤ i)) := rfl
theorem v_le_sign {c k : Nat} : dLe (.str (S [c])) (.str (S [k])) μ = some (decide (c ≤ k)) := by
  show some (!decide ([k] < [c])) = _
  congr 1
  by_cases h : c ≤ k
  · rw [decide_eq_true h, decide_eq_false]
    · rfl
    · rw [List.cons_lt_cons_iff]
      simp
      omega
  · rw [decide_eq_false h, decide_eq_true]
    · rfl
    · rw [List.cons_lt_cons_iff]
      exact .inl (by omega)
@[simp] theorem v_add_int : dAdd (.int i) (.int j) μ = some (.int (i + j), μ) := rfl
@[simp] theorem v_addI_int : dAddI (.int i) (.int j) μ = some (.int (i + j), μ) := rfl
theorem v_add_str {l m : List Nat} (h : l.length + m.length ≤ sizeLine) : dAdd (.str (S l)) (.str (S m)) μ = some (.str (S (l ++ m)), μ) := by
  show (if (S l).length + (S m).length ≤ sizeLine then some (D.str (S l ++ S m), μ) else none) = _
  rw [if_pos (by rw [S_len, S_len]; exact h), S_cat]
theorem v_add_loc {m : Nat} (h1 : μ[n]? = some (.lst xs)) (h2 : μ[m]? = some (.lst ys)) (h : xs.length + ys.length ≤ sizeLine) : dAdd (.loc n) (.loc m) μ = some (.loc μ.length, μ ++ [.lst (xs ++ ys)]) := by
  show (match μ[n]?, μ[m]? with
    | some (MO.lst xs), some (MO.lst ys) => if xs.length + ys.length ≤ sizeLine then some (D.loc μ.length, μ ++ [MO.lst (xs ++ ys)]) else none
    | _, _ => none) = _
  rw [h1, h2]
  exact if_pos h
@[simp] theorem v_sub_int : dSub (.int i) (.int j) μ = some (.int (i - j), μ) := rfl
theorem v_mul_int (h : CMul i j) : dMul (.int i) (.int j) μ = some (.int (i * j), μ) := if_pos h
theorem v_mod_int (h : 0 < j) : dMod (.int i) (.int j) μ = some (.int (i % j), μ) := if_pos h
theorem v_fdiv_int (h : CDiv i j) : dFdiv (.int i) (.int j) μ = some (.int (i / j), μ) := if_pos h
theorem v_pow_int (h : CPow i j) : dPow (.int i) (.int j) μ = some (.int (i ^ j.toNat), μ) := if_pos h
@[simp] theorem v_neg_int : dNeg (.int i) μ = some (.int (-i), μ) := rfl
@[simp] theorem v_isn_non : dIsN neg .non .non μ = some (!neg) := rfl
@[simp] theorem v_isn_tup : dIsN neg (.tup xs) .non μ = some neg := rfl
@[simp] theorem v_isn_int : dIsN neg (.int i) .non μ = some neg := rfl
@[simp] theorem v_isn_str : dIsN neg (.str a) .non μ = some neg := rfl
@[simp] theorem v_isn_loc : dIsN neg (.loc n) .non μ = some neg := rfl
@[simp] theorem v_isn_bl : dIsN neg (.bl p) (.bl q) μ = some (if neg then !decide (p = q) else decide (p = q)) := rfl
theorem v_isi {t s : String} (h : tyD μ d = some t) (hs : s ∈ isiTys) : dIsi [d, .ty s] μ = some (.bl (isiB t s), μ) := by
  unfold dIsi
  simp only [h, hs, if_true, Option.map_some]
@[simp] theorem v_isi_tup {s : String} : dIsi [.tup xs, .ty s] μ = if s ∈ isiTys then some (.bl (isiB "tuple" s), μ) else none := rfl
@[simp] theorem v_isi_str {s : String} : dIsi [.str a, .ty s] μ = if s ∈ isiTys then some (.bl (isiB "str" s), μ) else none := rfl
@[simp] theorem v_isi_int {s : String} : dIsi [.int i, .ty s] μ = if s ∈ isiTys then some (.bl (isiB "int" s), μ) else none := rfl
@[simp] theorem v_isi_bl {s : String} : dIsi [.bl p, .ty s] μ = if s ∈ isiTys then some (.bl (isiB "bool" s), μ) else none := rfl
@[simp] theorem v_isi_non {s : String} : dIsi [.non, .ty s] μ = if s ∈ isiTys then some (.bl (isiB "NoneType" s), μ) else none := rfl
theorem v_append (h : μ[n]? = some (.lst xs)) (hl : xs.length < sizeLine) : dAppend (.loc n) [d] μ = some (.non, μ.set n (.lst (xs ++ [d]))) := by
  show (match μ[n]? with
    | some (MO.lst xs) => if xs.length < sizeLine then some (D.non, μ.set n (MO.lst (xs ++ [d]))) else none
    | _ => none) = _
  rw [h]
  exact if_pos hl
theorem v_extend {m : Nat} (h : μ[n]? = some (.lst xs)) (h2 : μ[m]? = some (.lst ys)) (hl : xs.length + ys.length ≤ sizeLine) : dExtend (.loc n) [.loc m] μ = some (.non, μ.set n (.lst (xs ++ ys))) := by
  show (match μ[n]?, μ[m]? with
    | some (MO.lst xs), some (MO.lst ys) => if xs.length + ys.length ≤ sizeLine then some (D.non, μ.set n (MO.lst (xs ++ ys))) else none
    | _, _ => none) = _
  rw [h, h2]
  exact if_pos hl
theorem v_extend_tup (h : μ[n]? = some (.lst xs)) (hl : xs.length + ys.length ≤ sizeLine) : dExtend (.loc n) [.tup ys] μ = some (.non, μ.set n (.lst (xs ++ ys))) := by
  show (match μ[n]? with
    | some (MO.lst xs) => if xs.length + ys.length ≤ sizeLine then some (D.non, μ.set n (MO.lst (xs ++ ys))) else none
    | _ => none) = _
  rw [h]
  exact if_pos hl
theorem v_pop (h : μ[n]? = some (.lst (xs ++ [d]))) : dPop (.loc n) [] μ = some (d, μ.set n (.lst xs)) := by
  show (match μ[n]? with
    | some (MO.lst xs) => (xs[xs.length - 1]?).map fun y => (y, μ.set n (MO.lst xs.dropLast))
    | _ => none) = _
  rw [h]
  simp
theorem isTy_loc (h : μ[n]? = some (.lst xs)) : isTy "list" μ (.loc n) = true := by
  unfold isTy
  simp only [h]
  rfl
@[simp] theorem isTy_str : isTy "str" μ (.str a) = true := rfl
theorem strsOf_S (ls : List (List Nat)) : strsOf (ls.map fun l => D.str (S l)) = some (ls.map S) := by
  induction ls with
  | nil => rfl
  | cons l r ih =>
    show (strsOf (r.map fun l => D.str (S l))).map (fun q => S l :: q) = _
    rw [ih]
    rfl
theorem v_join {k : List Nat} {ls : List (List Nat)} (h : μ[n]? = some (.lst (ls.map fun l => D.str (S l)))) (hz : (ls.map List.length).sum + ls.length * k.length ≤ 16777216) : dJoin (.str (S k)) [.loc n] μ = some (.str (S (TL.joinL k ls)), μ) := by
  show (match μ[n]? with
    | some (MO.lst xs) => (strsOf xs).bind fun (ys : List Str) => if (ys.map fun (z : Str) => z.length).sum + ys.length * (S k).length ≤ 16777216 then some (D.str (Txt.join (S k) ys), μ) else none
    | _ => none) = _
  rw [h]
  simp only [strsOf_S, Option.bind_some]
  rw [SX.lens, S_len, List.length_map, if_pos hz, join_S]
theorem v_split {k l : List Nat} (hk : k ≠ []) (h2 : k.all (· < 256) = true) (hl : l.length + 2 ≤ sizeLine) : dSplit (.str (S l)) [.str (S k)] μ = some (.loc μ.length, μ ++ [.lst ((TL.spl k 0 [] l).map fun p => .str (S p))]) := by
  show (if ((S k).length == 0) = false ∧ (S l).length + 2 ≤ sizeLine then some (D.loc μ.length, μ ++ [MO.lst ((Txt.split (S l) (S k)).map D.str)]) else none) = _
  have e : ((S k).length == 0) = false := by
    rw [S_len]
    cases k with
    | nil => exact absurd rfl hk
    | cons _ _ => rfl
  rw [if_pos ⟨e, by rw [S_len]; exact hl⟩, split_S hk h2, List.map_map]
  rfl
@[simp] theorem v_tuple_tup : dTuple [.tup xs] μ = some (.tup xs, μ) := rfl
theorem v_tuple_loc (h : μ[n]? = some (.lst xs)) : dTuple [.loc n] μ = some (.tup xs, μ) := by
  show (match μ[n]? with
    | some (MO.lst xs) => some (D.tup xs, μ)
    | _ => none) = _
  rw [h]
theorem v_all_loc {bs : List Bool} (h : μ[n]? = some (.lst (bs.map .bl))) : dAll [.loc n] μ = some (.bl (bs.all id), μ) := by
  show (match μ[n]? with
    | some (MO.lst xs) => (blsOf xs).map fun (bs : List Bool) => (D.bl (bs.all id), μ)
    | _ => none) = _
  rw [h]
  have e : ∀ bs : List Bool, blsOf (bs.map .bl) = some bs := fun bs => by
    induction bs with
    | nil => rfl
    | cons b r ih =>
      show (blsOf (r.map .bl)).map (fun q => b :: q) = _
      rw [ih]
      rfl
  simp only [e, Option.map_some]
theorem strs1_S (l : List Nat) : strs1 (S l) = l.map fun c => .str (S [c]) := rfl
theorem v_in_sign {c : Nat} {l : List Nat} : dIn neg (.str (S [c])) (.str (S l)) μ = some (if neg then !decide (c ∈ l) else decide (c ∈ l)) := rfl
theorem v_sl_ab {a b : Nat} (h : l.length ≤ sizeLine) : dSl (.str (S l)) (some (a : Int)) (some (b : Int)) μ = some (.str (S ((l.drop a).take (b - a))), μ) := by
  show (if (S l).length ≤ sizeLine then some (D.str (cutS (S l) (some (a : Int)) (some (b : Int))), μ) else none) = _
  rw [if_pos (by rw [S_len]; exact h), cut_ab]
theorem v_sl_a {a : Nat} (h : l.length ≤ sizeLine) : dSl (.str (S l)) (some (a : Int)) none μ = some (.str (S (l.drop a)), μ) := by
  show (if (S l).length ≤ sizeLine then some (D.str (cutS (S l) (some (a : Int)) none), μ) else none) = _
  rw [if_pos (by rw [S_len]; exact h), cut_a]
theorem v_sl_b {b : Nat} (h : l.length ≤ sizeLine) : dSl (.str (S l)) none (some (b : Int)) μ = some (.str (S (l.take b)), μ) := by
  show (if (S l).length ≤ sizeLine then some (D.str (cutS (S l) none (some (b : Int))), μ) else none) = _
  rw [if_pos (by rw [S_len]; exact h), cut_b]
theorem v_sl_loc {lo hi : Option Int} (h : μ[n]? = some (.lst xs)) : dSl (.loc n) lo hi μ = some (.loc μ.length, μ ++ [.lst (cutD xs lo hi)]) := by
  show (match μ[n]? with
    | some (MO.lst xs) => some (D.loc μ.length, μ ++ [MO.lst (cutD xs lo hi)])
    | _ => none) = _
  rw [h]
end
/-! in a tuple -/
def kIn (neg : Bool) (p : PyData) : Option (List PyData) → Option Bool
  | some qs => if p.canLay0 = true ∧ PyData.canLayAll0 qs = true ∧ p.depth ≤ 64 then some (if neg then !qs.any fun z => PyData.eqv z p else qs.any fun z => PyData.eqv z p) else none
  | none => none
@[simp] theorem v_in_str {neg : Bool} {a : Str} {ys : List D} {μ : Store} : dIn neg (.str a) (.tup ys) μ = kIn neg (.str a) (pyL ys) := by
  show (match pyD (.str a), pyL ys with
    | some p, some qs => if p.canLay0 = true ∧ PyData.canLayAll0 qs = true ∧ p.depth ≤ 64 then some (if neg then !qs.any fun z => PyData.eqv z p else qs.any fun z => PyData.eqv z p) else none
    | _, _ => none) = _
  cases h : pyL ys <;> rfl
@[simp] theorem v_in_non {neg : Bool} {ys : List D} {μ : Store} : dIn neg .non (.tup ys) μ = kIn neg .none (pyL ys) := by
  show (match pyD .non, pyL ys with
    | some p, some qs => if p.canLay0 = true ∧ PyData.canLayAll0 qs = true ∧ p.depth ≤ 64 then some (if neg then !qs.any fun z => PyData.eqv z p else qs.any fun z => PyData.eqv z p) else none
    | _, _ => none) = _
  cases h : pyL ys <;> rfl
def kPc (p : PyData) : Option (List PyData) → Option (List PyData)
  | some qs => some (p :: qs)
  | none => none
@[simp] theorem kPc_s {p : PyData} {qs : List PyData} : kPc p (some qs) = some (p :: qs) := rfl
def kPb (ds : List D) : Option PyData → Option (List PyData)
  | some p => kPc p (pyL ds)
  | none => none
@[simp] theorem kPb_s {ds : List D} {p : PyData} : kPb ds (some p) = kPc p (pyL ds) := rfl
@[simp] theorem v_pyL_nil : pyL [] = some [] := rfl
@[simp] theorem v_pyL {d : D} {ds : List D} : pyL (d :: ds) = kPb ds (pyD d) := by
  show (pyD d).bind _ = _
  cases h : pyD d with
  | none => rfl
  | some p =>
    show (pyL ds).map _ = kPc p (pyL ds)
    cases h2 : pyL ds <;> rfl
@[simp] theorem v_pyD_str {a : Str} : pyD (.str a) = some (.str a) := rfl
@[simp] theorem v_pyD_int {a : Int} : pyD (.int a) = some (.int a) := rfl
@[simp] theorem v_pyD_bl {a : Bool} : pyD (.bl a) = some (.bool a) := rfl
@[simp] theorem v_pyD_non : pyD .non = some .none := rfl
@[simp] theorem kIn_s {neg : Bool} {p : PyData} {qs : List PyData} : kIn neg p (some qs) = if p.canLay0 = true ∧ PyData.canLayAll0 qs = true ∧ p.depth ≤ 64 then some (if neg then !qs.any fun z => PyData.eqv z p else qs.any fun z => PyData.eqv z p) else none := rfl
@[simp] theorem e_lay_str (x : String) : PyData.canLay0 (.str (Str.ofString x)) = true := strOk_ofS x
@[simp] theorem e_lay_int (x : Int) : PyData.canLay0 (.int x) = true := rfl
@[simp] theorem e_lay_bl (x : Bool) : PyData.canLay0 (.bool x) = true := rfl
@[simp] theorem e_lay_non : PyData.canLay0 .none = true := rfl
@[simp] theorem e_lay_tup (x : List PyData) : PyData.canLay0 (.tuple x) = PyData.canLayAll0 x := by simp [PyData.canLay0]
@[simp] theorem e_lay_nil : PyData.canLayAll0 [] = true := rfl
@[simp] theorem e_lay_cons (x : PyData) (xs : List PyData) : PyData.canLayAll0 (x :: xs) = (x.canLay0 && PyData.canLayAll0 xs) := by simp [PyData.canLayAll0]
@[simp] theorem e_dep_str (x : Str) : PyData.depth (.str x) = 0 := rfl
@[simp] theorem e_dep_int (x : Int) : PyData.depth (.int x) = 0 := rfl
@[simp] theorem e_dep_bl (x : Bool) : PyData.depth (.bool x) = 0 := rfl
@[simp] theorem e_dep_non : PyData.depth .none = 0 := rfl
@[simp] theorem e_dep_tup (x : List PyData) : PyData.depth (.tuple x) = PyData.depthAll x + 1 := by simp [PyData.depth]
@[simp] theorem e_depA_nil : PyData.depthAll [] = 0 := rfl
@[simp] theorem e_depA (x : PyData) (xs : List PyData) : PyData.depthAll (x :: xs) = max x.depth (PyData.depthAll xs) := by simp [PyData.depthAll]
@[simp] theorem e_eqv_str (x y : String) : PyData.eqv (.str (Str.ofString x)) (.str (Str.ofString y)) = decide (x = y) := by
  show (Str.ofString x == Str.ofString y) = _
  exact ofS_beq x y
@[simp] theorem e_eqv_tup (x y : List PyData) : PyData.eqv (.tuple x) (.tuple y) = PyData.eqvAll x y := by simp [PyData.eqv]
@[simp] theorem e_eqvA_nn : PyData.eqvAll [] [] = true := by simp [PyData.eqvAll]
@[simp] theorem e_eqvA_nc (y : PyData) (ys : List PyData) : PyData.eqvAll [] (y :: ys) = false := by simp [PyData.eqvAll]
@[simp] theorem e_eqvA_cn (y : PyData) (ys : List PyData) : PyData.eqvAll (y :: ys) [] = false := by simp [PyData.eqvAll]
@[simp] theorem e_eqvA_cc (x y : PyData) (xs ys : List PyData) : PyData.eqvAll (x :: xs) (y :: ys) = (PyData.eqv x y && PyData.eqvAll xs ys) := by simp [PyData.eqvAll]
end PDL
set_option Elab.async false
set_option linter.all false
set_option maxRecDepth 100000
/-! walks: printed by gen.py -/
namespace K73
open PySem PySem.Spec PyProof.Rows L2 PDL
abbrev P__law_pot : List Str := ["script", "k"]
abbrev P__law_draw : List Str := ["pot", "size"]
abbrev P__law_pick : List Str := ["pot", "some"]
abbrev P__law_text : List Str := ["pot"]
abbrev P__law_data : List Str := ["pot", "deep"]
abbrev P__law_records : List Str := ["pot", "many"]
abbrev P_is_integer : List Str := ["value"]
abbrev P_is_count : List Str := ["value"]
abbrev P_is_number : List Str := ["value"]
abbrev P_is_row : List Str := ["value", "many"]
abbrev P_is_text : List Str := ["value", "least"]
abbrev P_has_signs : List Str := ["value", "first", "others"]
abbrev P_is_input_name : List Str := ["value"]
abbrev P_is_int : List Str := ["value"]
abbrev P_is_name : List Str := ["value"]
abbrev P_are_two_names : List Str := ["one", "other"]
abbrev P_is_sign : List Str := ["value"]
abbrev P_is_node : List Str := ["value"]
abbrev P_children_of : List Str := ["term"]
abbrev P_is_within : List Str := ["value", "nodes", "deep"]
abbrev P_is_data_of : List Str := ["value"]
abbrev P_is_telling_of : List Str := ["value"]
abbrev P_is_record_of : List Str := ["value"]
abbrev P_word_of : List Str := ["telling"]
abbrev P_parts_of : List Str := ["record"]
abbrev P_sum_of_signs : List Str := ["text"]
abbrev P_line_of : List Str := ["number", "record"]
abbrev P_record_line : List Str := ["number", "record"]
abbrev P_can_follow : List Str := ["word"]
abbrev P_follows : List Str := ["records", "record"]
abbrev P_are_records_of : List Str := ["value"]
abbrev P_journal_of : List Str := ["records"]
abbrev P_journal_text : List Str := ["records"]
abbrev P_int_from : List Str := ["text", "at"]
abbrev P_telling_from : List Str := ["text", "at", "deep"]
abbrev P_telling_by : List Str := ["text"]
abbrev P_number_by : List Str := ["text"]
abbrev P_record_by : List Str := ["parts"]
abbrev P_record_in : List Str := ["number", "line"]
abbrev P_read_of : List Str := ["text"]
abbrev P_want_journal : List Str := ["value"]
abbrev P_read_journal : List Str := ["text"]
abbrev P_are_records : List Str := ["value"]
abbrev P__law_is_right : List Str := ["records", "many", "text"]
abbrev P_sum_of : List Str := ["text"]
abbrev P_law : List Str := ["script"]
/-! _law_pot -/
abbrev N__law_pot : List Str := ["script", "k", "cell"]
theorem S__law_pot : FnScope N__law_pot P__law_pot (defScope s__law_pot) := ⟨rfl, rfl, rfl, by decide +kernel, rfl, by decide +kernel, by decide +kernel⟩
noncomputable def ev__law_pot  : EvS :=
  (evSeq (evAsg (evIf (evTCmp dLt (evVar 1) (evCall dLen (evCons (evVar 0) evNil))) (evCall dAbs (evCons (evBin dIx (evVar 0) (evVar 1)) evNil)) (evBin dAdd (evBin dMul (evC (.int 19709)) (evVar 1)) (evC (.int 21101)))) (egName 2))
  (evRet (evLst (evCons (evCall dMax (evCons (evC (.int 0)) (evCons (evBin dSub (evVar 2) (evBin dPow (evC (.int 10)) (evC (.int 18)))) evNil))) (evCons (evBin dAdd (evBin dMod (evCall dInt (evCons (evBin dAdd (evBin dAdd (evBin dMul (evBin dMod (evCall dInt (evCons (evVar 2) evNil)) (evC (.int 2147483549))) (evC (.int 17957))) (evBin dMul (evC (.int 18191)) (evVar 1))) (evC (.int 907))) evNil)) (evC (.int 2147483563))) (evC (.int 1))) evNil)))))
theorem b__law_pot {P : Program} {w : World} {K : PySem.W.Frag} {mg : Str → Option Value} {base : Heap} {k : Nat}  (M : MF w K mg) (f : Addr) (cdv : Value) (A : Around) (outer : List PySem.Env) (s : Shared) (H : Hp) (E : XK) (hr : Room k (A.deeper (envOfC "_law_pot" (defScope s__law_pot) s.heap.objs.size f cdv))) :
    PDSs (cxOf CX0 P w K mg base N__law_pot "_law_pot" (defScope s__law_pot) f cdv A outer s H E).nox (defBody s__law_pot) (ev__law_pot ) := by
  have Nd := S__law_pot.nd
  exact (pdss_cons (pds_set 2 Nd (pd_if (pdt_cmp op_lt dLt_ok (pd_var 1) (pd_len M.n_len (pda_cons (pd_var 0) pda_nil)) (by rfl)) (pd_abs M.n_abs (pda_cons (pd_ix ix_seq dIx_ok (pd_var 0) (pd_var 1) (fun _ _ => rfl)) pda_nil)) (pd_bin opAdd dAdd_ok (pd_bin op_mul dMul_ok pd_int (pd_var 1)) pd_int)))
      (pdss_one (pds_ret (pd_lst (pda_cons (pd_max rfl M.n_max (pda_cons pd_int (pda_cons (pd_bin op_sub dSub_ok (pd_var 2) (pd_bin op_pow dPow_ok pd_int pd_int)) pda_nil))) (pda_cons (pd_bin opAdd dAdd_ok (pd_bin op_mod dMod_ok (pd_int_ M.n_int (pda_cons (pd_bin opAdd dAdd_ok (pd_bin opAdd dAdd_ok (pd_bin op_mul dMul_ok (pd_bin op_mod dMod_ok (pd_int_ M.n_int (pda_cons (pd_var 2) pda_nil)) pd_int) pd_int) (pd_bin op_mul dMul_ok pd_int (pd_var 1))) pd_int) pda_nil)) pd_int) pd_int) pda_nil))))))
theorem ok__law_pot {P : Program} {w : World} {K : PySem.W.Frag} {mg : Str → Option Value} {base : Heap} {k : Nat}  (M : MF w K mg) : Has P w K mg base (k + 1) "_law_pot" P__law_pot (runF N__law_pot (ev__law_pot ) 2) :=
  Has.of M.f__law_pot S__law_pot (fun _ _ _ _ _ _ us hl => match us, hl with | [_, _], _ => rfl) (b__law_pot M )
/-! _law_draw -/
abbrev N__law_draw : List Str := ["pot", "size", "digit"]
theorem S__law_draw : FnScope N__law_draw P__law_draw (defScope s__law_draw) := ⟨rfl, rfl, rfl, by decide +kernel, rfl, by decide +kernel, by decide +kernel⟩
noncomputable def ev__law_draw  : EvS :=
  (evSeq (evIfS (evTCmp dGt (evBin dIx (evVar 0) (evC (.int 0))) (evC (.int 0)))
  (evSeq (evAsg (evCall dDivmod (evCons (evBin dIx (evVar 0) (evC (.int 0))) (evCons (evVar 1) evNil))) (egTup 2 (egCons (egSub dSet (evVar 0) (evC (.int 0))) (egCons (egName 2) egNil))))
  (evRet (evVar 2)))
  evNx)
  (evSeq (evAsg (evBin dMod (evCall dInt (evCons (evBin dAdd (evBin dMul (evBin dIx (evVar 0) (evC (.int 1))) (evC (.int 40692))) (evC (.int 18191))) evNil)) (evC (.int 2147483399))) (egSub dSet (evVar 0) (evC (.int 1))))
  (evRet (evBin dMod (evCall dInt (evCons (evBin dFdiv (evBin dMod (evCall dInt (evCons (evBin dMul (evBin dIx (evVar 0) (evC (.int 1))) (evBin dIx (evVar 0) (evC (.int 1)))) evNil)) (evC (.int 2147483323))) (evC (.int 19))) evNil)) (evVar 1)))))
theorem b__law_draw {P : Program} {w : World} {K : PySem.W.Frag} {mg : Str → Option Value} {base : Heap} {k : Nat}  (M : MF w K mg) (f : Addr) (cdv : Value) (A : Around) (outer : List PySem.Env) (s : Shared) (H : Hp) (E : XK) (hr : Room k (A.deeper (envOfC "_law_draw" (defScope s__law_draw) s.heap.objs.size f cdv))) :
    PDSs (cxOf CX0 P w K mg base N__law_draw "_law_draw" (defScope s__law_draw) f cdv A outer s H E).nox (defBody s__law_draw) (ev__law_draw ) := by
  have Nd := S__law_draw.nd
  exact (pdss_cons (pds_if (pdt_cmp op_gt dGt_ok (pd_ix ix_seq dIx_ok (pd_var 0) pd_int (fun _ _ => rfl)) pd_int (by rfl))
      (pdss_cons (pds_asg (pd_divmod M.n_divmod (pda_cons (pd_ix ix_seq dIx_ok (pd_var 0) pd_int (fun _ _ => rfl)) (pda_cons (pd_var 1) pda_nil))) (pdg_tup (n := 2) rfl (pdgs_cons (pdg_sub (pd_var 0) pd_int set_list dSet_ok) (pdgs_cons (pdg_name 2 Nd) pdgs_nil))))
      (pdss_one (pds_ret (pd_var 2))))
      pdss_nil)
      (pdss_cons (pds_asg (pd_bin op_mod dMod_ok (pd_int_ M.n_int (pda_cons (pd_bin opAdd dAdd_ok (pd_bin op_mul dMul_ok (pd_ix ix_seq dIx_ok (pd_var 0) pd_int (fun _ _ => rfl)) pd_int) pd_int) pda_nil)) pd_int) (pdg_sub (pd_var 0) pd_int set_list dSet_ok))
      (pdss_one (pds_ret (pd_bin op_mod dMod_ok (pd_int_ M.n_int (pda_cons (pd_bin op_fdiv dFdiv_ok (pd_bin op_mod dMod_ok (pd_int_ M.n_int (pda_cons (pd_bin op_mul dMul_ok (pd_ix ix_seq dIx_ok (pd_var 0) pd_int (fun _ _ => rfl)) (pd_ix ix_seq dIx_ok (pd_var 0) pd_int (fun _ _ => rfl))) pda_nil)) pd_int) pd_int) pda_nil)) (pd_var 1))))))
theorem ok__law_draw {P : Program} {w : World} {K : PySem.W.Frag} {mg : Str → Option Value} {base : Heap} {k : Nat}  (M : MF w K mg) : Has P w K mg base (k + 1) "_law_draw" P__law_draw (runF N__law_draw (ev__law_draw ) 2) :=
  Has.of M.f__law_draw S__law_draw (fun _ _ _ _ _ _ us hl => match us, hl with | [_, _], _ => rfl) (b__law_draw M )
/-! _law_pick -/
abbrev N__law_pick : List Str := ["pot", "some"]
theorem S__law_pick : FnScope N__law_pick P__law_pick (defScope s__law_pick) := ⟨rfl, rfl, rfl, by decide +kernel, rfl, by decide +kernel, by decide +kernel⟩
noncomputable def ev__law_pick (m__law_draw : List D → Store → Option (D × Store)) : EvS :=
  (evRet (evBin dIx (evVar 1) (evCall m__law_draw (evCons (evVar 0) (evCons (evCall dLen (evCons (evVar 1) evNil)) evNil)))))
theorem b__law_pick {P : Program} {w : World} {K : PySem.W.Frag} {mg : Str → Option Value} {base : Heap} {k : Nat} {m__law_draw : List D → Store → Option (D × Store)} (M : MF w K mg) (F__law_draw : Has P w K mg base k "_law_draw" P__law_draw m__law_draw) (f : Addr) (cdv : Value) (A : Around) (outer : List PySem.Env) (s : Shared) (H : Hp) (E : XK) (hr : Room k (A.deeper (envOfC "_law_pick" (defScope s__law_pick) s.heap.objs.size f cdv))) :
    PDSs (cxOf CX0 P w K mg base N__law_pick "_law_pick" (defScope s__law_pick) f cdv A outer s H E).nox (defBody s__law_pick) (ev__law_pick m__law_draw) := by
  have Nd := S__law_pick.nd
  exact (pdss_one (pds_ret (pd_ix ix_seq dIx_ok (pd_var 1) (pd_fn F__law_draw hr (by omega) (pda_cons (pd_var 0) (pda_cons (pd_len M.n_len (pda_cons (pd_var 1) pda_nil)) pda_nil))) (fun _ _ => rfl))))
theorem ok__law_pick {P : Program} {w : World} {K : PySem.W.Frag} {mg : Str → Option Value} {base : Heap} {k : Nat} {m__law_draw : List D → Store → Option (D × Store)} (M : MF w K mg) (F__law_draw : Has P w K mg base k "_law_draw" P__law_draw m__law_draw) : Has P w K mg base (k + 1) "_law_pick" P__law_pick (runF N__law_pick (ev__law_pick m__law_draw) 2) :=
  Has.of M.f__law_pick S__law_pick (fun _ _ _ _ _ _ us hl => match us, hl with | [_, _], _ => rfl) (b__law_pick M F__law_draw)
/-! _law_text -/
abbrev N__law_text : List Str := ["pot", "turn"]
theorem S__law_text : FnScope N__law_text P__law_text (defScope s__law_text) := ⟨rfl, rfl, rfl, by decide +kernel, rfl, by decide +kernel, by decide +kernel⟩
noncomputable def ev__law_text (m__law_draw : List D → Store → Option (D × Store)) (m__law_pick : List D → Store → Option (D × Store)) : EvS :=
  (evRet (evMeth "str" dJoin (evC (.str "")) (evCons (evComp (eiRange (evCons (evBin dAdd (evC (.int 1)) (evCall m__law_draw (evCons (evVar 0) (evCons (evC (.int 9)) evNil)))) evNil)) (egC1 1) evYes (evCall m__law_pick (evCons (evVar 0) (evCons (evLst (evCons (evC (.str "do 1")) (evCons (evC (.str " ")) (evCons (evC (.str "\n")) (evCons (evC (.str "x")) (evCons (evC (.str "~")) (evCons (evC (.str "A")) (evCons (evC (.str "  ")) (evCons (evC (.str "[]")) evNil))))))))) evNil))) [1]) evNil)))
theorem b__law_text {P : Program} {w : World} {K : PySem.W.Frag} {mg : Str → Option Value} {base : Heap} {k : Nat} {m__law_draw : List D → Store → Option (D × Store)} {m__law_pick : List D → Store → Option (D × Store)} (M : MF w K mg) (F__law_draw : Has P w K mg base k "_law_draw" P__law_draw m__law_draw) (F__law_pick : Has P w K mg base k "_law_pick" P__law_pick m__law_pick) (f : Addr) (cdv : Value) (A : Around) (outer : List PySem.Env) (s : Shared) (H : Hp) (E : XK) (hr : Room k (A.deeper (envOfC "_law_text" (defScope s__law_text) s.heap.objs.size f cdv))) :
    PDSs (cxOf CX0 P w K mg base N__law_text "_law_text" (defScope s__law_text) f cdv A outer s H E).nox (defBody s__law_text) (ev__law_text m__law_draw m__law_pick) := by
  have Nd := S__law_text.nd
  exact (pdss_one (pds_ret (pd_join pd_str (pda_cons (pd_lc rfl Nd (pdi_range (by rfl) M.n_range (pda_cons (pd_bin opAdd dAdd_ok pd_int (pd_fn F__law_draw hr (by omega) (pda_cons (pd_var 0) (pda_cons pd_int pda_nil)))) pda_nil)) (blkOk_by (own := [("turn", 1)]) (by show blkC N__law_text (defScope s__law_text) _ _ = true; decide +kernel)) (cg_name 1) (fun _ _ _ _ _ => (pg_name (i := 1) Nd rfl (Or.inl rfl) (.inr rfl))) (fun _ _ _ _ _ => pdts_nil) (fun _ _ _ _ _ => (pd_fn F__law_pick hr (by omega) (pda_cons (pd_var 0) (pda_cons (pd_lst (pda_cons pd_str (pda_cons pd_str (pda_cons pd_str (pda_cons pd_str (pda_cons pd_str (pda_cons pd_str (pda_cons pd_str (pda_cons pd_str pda_nil))))))))) pda_nil))))) pda_nil))))
theorem ok__law_text {P : Program} {w : World} {K : PySem.W.Frag} {mg : Str → Option Value} {base : Heap} {k : Nat} {m__law_draw : List D → Store → Option (D × Store)} {m__law_pick : List D → Store → Option (D × Store)} (M : MF w K mg) (F__law_draw : Has P w K mg base k "_law_draw" P__law_draw m__law_draw) (F__law_pick : Has P w K mg base k "_law_pick" P__law_pick m__law_pick) : Has P w K mg base (k + 1) "_law_text" P__law_text (runF N__law_text (ev__law_text m__law_draw m__law_pick) 1) :=
  Has.of M.f__law_text S__law_text (fun _ _ _ _ _ _ us hl => match us, hl with | [_], _ => rfl) (b__law_text M F__law_draw F__law_pick)
theorem okK__law_text {P : Program} {w : World} {K : PySem.W.Frag} {mg : Str → Option Value} {base : Heap} {k : Nat} {m__law_draw : List D → Store → Option (D × Store)} {m__law_pick : List D → Store → Option (D × Store)} (M : MF w K mg) (F__law_draw : Has P w K mg base k "_law_draw" P__law_draw m__law_draw) (F__law_pick : Has P w K mg base k "_law_pick" P__law_pick m__law_pick) : HasK P w K mg base (k + 1) "_law_text" "pot" (runF N__law_text (ev__law_text m__law_draw m__law_pick) 1) :=
  HasK.of M.f__law_text S__law_text (fun _ _ _ _ _ _ _ => rfl) (b__law_text M F__law_draw F__law_pick)
/-! _law_data -/
abbrev N__law_data : List Str := ["pot", "deep", "way"]
theorem S__law_data : FnScope N__law_data P__law_data (defScope s__law_data) := ⟨rfl, rfl, rfl, by decide +kernel, rfl, by decide +kernel, by decide +kernel⟩
noncomputable def ev__law_data (m__law_draw : List D → Store → Option (D × Store)) (m__law_pick : List D → Store → Option (D × Store)) (m__law_data : List D → Store → Option (D × Store)) : EvS :=
  (evSeq (evAsg (evCall m__law_draw (evCons (evVar 0) (evCons (evC (.int 8)) evNil))) (egName 2))
  (evSeq (evIfS (evOrT (evTCmp (dEqv false) (evVar 1) (evC (.int 0))) (evTCmp dLt (evVar 2) (evC (.int 5))))
  (evRet (evCall m__law_pick (evCons (evVar 0) (evCons (evLst (evCons (evTup (evCons (evC (.str "int")) (evCons (evBin dSub (evCall m__law_draw (evCons (evVar 0) (evCons (evC (.int 2000)) evNil))) (evC (.int 1000))) evNil))) (evCons (evTup (evCons (evC (.str "bool")) (evCons (evC (.bl true)) evNil))) (evCons (evTup (evCons (evC (.str "unit")) evNil)) (evCons (evTup (evCons (evC (.str "nil")) evNil)) (evCons (evTup (evCons (evC (.str "int")) (evCons (evBin dSub (evBin dPow (evC (.int 2)) (evC (.int 31))) (evC (.int 1))) evNil))) evNil)))))) evNil))))
  evNx)
  (evRet (evTup (evCons (evIf (evTCmp dLt (evVar 2) (evC (.int 7))) (evC (.str "pair")) (evC (.str "cons"))) (evCons (evCall m__law_data (evCons (evVar 0) (evCons (evBin dSub (evVar 1) (evC (.int 1))) evNil))) (evCons (evCall m__law_data (evCons (evVar 0) (evCons (evBin dSub (evVar 1) (evC (.int 1))) evNil))) evNil)))))))
theorem b__law_data {P : Program} {w : World} {K : PySem.W.Frag} {mg : Str → Option Value} {base : Heap} {k : Nat} {m__law_draw : List D → Store → Option (D × Store)} {m__law_pick : List D → Store → Option (D × Store)} {m__law_data : List D → Store → Option (D × Store)} (M : MF w K mg) (F__law_draw : Has P w K mg base k "_law_draw" P__law_draw m__law_draw) (F__law_pick : Has P w K mg base k "_law_pick" P__law_pick m__law_pick) (F__law_data : Has P w K mg base k "_law_data" P__law_data m__law_data) (f : Addr) (cdv : Value) (A : Around) (outer : List PySem.Env) (s : Shared) (H : Hp) (E : XK) (hr : Room k (A.deeper (envOfC "_law_data" (defScope s__law_data) s.heap.objs.size f cdv))) :
    PDSs (cxOf CX0 P w K mg base N__law_data "_law_data" (defScope s__law_data) f cdv A outer s H E).nox (defBody s__law_data) (ev__law_data m__law_draw m__law_pick m__law_data) := by
  have Nd := S__law_data.nd
  exact (pdss_cons (pds_set 2 Nd (pd_fn F__law_draw hr (by omega) (pda_cons (pd_var 0) (pda_cons pd_int pda_nil))))
      (pdss_cons (pds_if (pdt_w (pdw_or (pdt_cmp (op_eqM hr.units) dEqv_ok (pd_var 1) pd_int (by rfl)) (pdw_or1 (pdt_cmp op_lt dLt_ok (pd_var 2) pd_int (by rfl)))))
      (pdss_one (pds_ret (pd_fn F__law_pick hr (by omega) (pda_cons (pd_var 0) (pda_cons (pd_lst (pda_cons (pd_tup (pda_cons pd_str (pda_cons (pd_bin op_sub dSub_ok (pd_fn F__law_draw hr (by omega) (pda_cons (pd_var 0) (pda_cons pd_int pda_nil))) pd_int) pda_nil))) (pda_cons (pd_tup (pda_cons pd_str (pda_cons pd_bl pda_nil))) (pda_cons (pd_tup (pda_cons pd_str pda_nil)) (pda_cons (pd_tup (pda_cons pd_str pda_nil)) (pda_cons (pd_tup (pda_cons pd_str (pda_cons (pd_bin op_sub dSub_ok (pd_bin op_pow dPow_ok pd_int pd_int) pd_int) pda_nil))) pda_nil)))))) pda_nil)))))
      pdss_nil)
      (pdss_one (pds_ret (pd_tup (pda_cons (pd_if (pdt_cmp op_lt dLt_ok (pd_var 2) pd_int (by rfl)) pd_str pd_str) (pda_cons (pd_fn F__law_data hr (by omega) (pda_cons (pd_var 0) (pda_cons (pd_bin op_sub dSub_ok (pd_var 1) pd_int) pda_nil))) (pda_cons (pd_fn F__law_data hr (by omega) (pda_cons (pd_var 0) (pda_cons (pd_bin op_sub dSub_ok (pd_var 1) pd_int) pda_nil))) pda_nil))))))))
theorem ok__law_data {P : Program} {w : World} {K : PySem.W.Frag} {mg : Str → Option Value} {base : Heap} {k : Nat} {m__law_draw : List D → Store → Option (D × Store)} {m__law_pick : List D → Store → Option (D × Store)} {m__law_data : List D → Store → Option (D × Store)} (M : MF w K mg) (F__law_draw : Has P w K mg base k "_law_draw" P__law_draw m__law_draw) (F__law_pick : Has P w K mg base k "_law_pick" P__law_pick m__law_pick) (F__law_data : Has P w K mg base k "_law_data" P__law_data m__law_data) : Has P w K mg base (k + 1) "_law_data" P__law_data (runF N__law_data (ev__law_data m__law_draw m__law_pick m__law_data) 2) :=
  Has.of M.f__law_data S__law_data (fun _ _ _ _ _ _ us hl => match us, hl with | [_, _], _ => rfl) (b__law_data M F__law_draw F__law_pick F__law_data)
/-! _law_records -/
abbrev N__law_records : List Str := ["pot", "many", "found", "last", "way", "turn"]
theorem S__law_records : FnScope N__law_records P__law_records (defScope s__law_records) := ⟨rfl, rfl, rfl, by decide +kernel, rfl, by decide +kernel, by decide +kernel⟩
noncomputable def ev__law_records (m__law_text : List D → Store → Option (D × Store)) (m__law_data : List D → Store → Option (D × Store)) (m__law_draw : List D → Store → Option (D × Store)) (m__law_pick : List D → Store → Option (D × Store)) : EvS :=
  (evSeq (evAsg (evSl dSl (evLst (evCons (evTup (evCons (evC (.str "program")) (evCons (evCall m__law_text (evCons (evVar 0) evNil)) evNil))) (evCons (evTup (evCons (evC (.str "inputs")) (evCons (evCall m__law_text (evCons (evVar 0) evNil)) evNil))) (evCons (evTup (evCons (evC (.str "told")) (evCons (evCall m__law_data (evCons (evVar 0) (evCons (evC (.int 3)) evNil))) (evCons (evCall m__law_draw (evCons (evVar 0) (evCons (evC (.int 90)) evNil))) evNil)))) evNil)))) evONone (evOSome (evVar 1))) (egName 2))
  (evSeq (evFor (eiRange (evCons (evBin dSub (evVar 1) (evC (.int 3))) evNil)) (egName 5)
  (evSeq (evPar 3 4 (evCons (evBin dIx (evBin dIx (evVar 2) (evUn dNeg (evC (.int 1)))) (evC (.int 0))) (evCons (evCall m__law_draw (evCons (evVar 0) (evCons (evC (.int 4)) evNil))) evNil)))
  (evIfS (evOrT (evTCmp (dEqv false) (evVar 3) (evC (.str "program"))) (evAndT (evTCmp (dEqv false) (evVar 3) (evC (.str "set"))) (evTCmp dLt (evVar 4) (evC (.int 2)))))
  (evDrop (evMeth "list" dAppend (evVar 2) (evCons (evTup (evCons (evC (.str "told")) (evCons (evCall m__law_data (evCons (evVar 0) (evCons (evC (.int 3)) evNil))) (evCons (evCall m__law_draw (evCons (evVar 0) (evCons (evC (.int 90)) evNil))) evNil)))) evNil)))
  (evIfS (evOrT (evTCmp (dEqv false) (evVar 3) (evC (.str "set"))) (evTCmp dLt (evVar 4) (evC (.int 2))))
  (evDrop (evMeth "list" dAppend (evVar 2) (evCons (evTup (evCons (evC (.str "set")) (evCons (evCall m__law_pick (evCons (evVar 0) (evCons (evLst (evCons (evC (.str "A")) (evCons (evC (.str "Cell2")) (evCons (evC (.str "ZzZzZzZzZzZz")) evNil)))) evNil))) (evCons (evCall m__law_data (evCons (evVar 0) (evCons (evC (.int 2)) evNil))) (evCons (evCall m__law_data (evCons (evVar 0) (evCons (evC (.int 3)) evNil))) evNil))))) evNil)))
  (evDrop (evMeth "list" dAppend (evVar 2) (evCons (evIf (evTCmp (dEqv false) (evVar 4) (evC (.int 2))) (evTup (evCons (evC (.str "program")) (evCons (evCall m__law_text (evCons (evVar 0) evNil)) evNil))) (evTup (evCons (evC (.str "kept")) (evCons (evCall m__law_draw (evCons (evVar 0) (evCons (evC (.int 1000)) evNil))) (evCons (evCall m__law_draw (evCons (evVar 0) (evCons (evBin dPow (evC (.int 10)) (evC (.int 9))) evNil))) evNil))))) evNil)))))))
  (evRet (evVar 2))))
theorem b__law_records {P : Program} {w : World} {K : PySem.W.Frag} {mg : Str → Option Value} {base : Heap} {k : Nat} {m__law_text : List D → Store → Option (D × Store)} {m__law_data : List D → Store → Option (D × Store)} {m__law_draw : List D → Store → Option (D × Store)} {m__law_pick : List D → Store → Option (D × Store)} (M : MF w K mg) (F__law_text : Has P w K mg base k "_law_text" P__law_text m__law_text) (F__law_data : Has P w K mg base k "_law_data" P__law_data m__law_data) (F__law_draw : Has P w K mg base k "_law_draw" P__law_draw m__law_draw) (F__law_pick : Has P w K mg base k "_law_pick" P__law_pick m__law_pick) (f : Addr) (cdv : Value) (A : Around) (outer : List PySem.Env) (s : Shared) (H : Hp) (E : XK) (hr : Room k (A.deeper (envOfC "_law_records" (defScope s__law_records) s.heap.objs.size f cdv))) :
    PDSs (cxOf CX0 P w K mg base N__law_records "_law_records" (defScope s__law_records) f cdv A outer s H E).nox (defBody s__law_records) (ev__law_records m__law_text m__law_data m__law_draw m__law_pick) := by
  have Nd := S__law_records.nd
  exact (pdss_cons (pds_set 2 Nd (pd_slice slA dSl_ok (pd_lst (pda_cons (pd_tup (pda_cons pd_str (pda_cons (pd_fn F__law_text hr (by omega) (pda_cons (pd_var 0) pda_nil)) pda_nil))) (pda_cons (pd_tup (pda_cons pd_str (pda_cons (pd_fn F__law_text hr (by omega) (pda_cons (pd_var 0) pda_nil)) pda_nil))) (pda_cons (pd_tup (pda_cons pd_str (pda_cons (pd_fn F__law_data hr (by omega) (pda_cons (pd_var 0) (pda_cons pd_int pda_nil))) (pda_cons (pd_fn F__law_draw hr (by omega) (pda_cons (pd_var 0) (pda_cons pd_int pda_nil))) pda_nil)))) pda_nil)))) pdo_none (pdo_some (pd_var 1))))
      (pdss_cons (pds_for PassesOwn.never rfl (pdi_range (by rfl) M.n_range (pda_cons (pd_bin op_sub dSub_ok (pd_var 1) pd_int) pda_nil)) (pdg_name 5 Nd)
      (pdss_cons (pds_par 3 4 rfl Nd (pda_cons (pd_ix ix_seq dIx_ok (pd_ix ix_seq dIx_ok (pd_var 2) (pd_un un_neg dNeg_ok pd_int) (fun _ _ => rfl)) pd_int (fun _ _ => rfl)) (pda_cons (pd_fn F__law_draw hr (by omega) (pda_cons (pd_var 0) (pda_cons pd_int pda_nil))) pda_nil)))
      (pdss_one (pds_if (pdt_w (pdw_or (pdt_cmp (op_eqM hr.units) dEqv_ok (pd_var 3) pd_str (by rfl)) (pdw_or1 (pdt_w (pdw_and (pdt_cmp (op_eqM hr.units) dEqv_ok (pd_var 3) pd_str (by rfl)) (pdw_and1 (pdt_cmp op_lt dLt_ok (pd_var 4) pd_int (by rfl))))))))
      (pdss_one (pds_expr (pd_append (pd_var 2) (pda_cons (pd_tup (pda_cons pd_str (pda_cons (pd_fn F__law_data hr (by omega) (pda_cons (pd_var 0) (pda_cons pd_int pda_nil))) (pda_cons (pd_fn F__law_draw hr (by omega) (pda_cons (pd_var 0) (pda_cons pd_int pda_nil))) pda_nil)))) pda_nil))))
      (pdss_one (pds_if (pdt_w (pdw_or (pdt_cmp (op_eqM hr.units) dEqv_ok (pd_var 3) pd_str (by rfl)) (pdw_or1 (pdt_cmp op_lt dLt_ok (pd_var 4) pd_int (by rfl)))))
      (pdss_one (pds_expr (pd_append (pd_var 2) (pda_cons (pd_tup (pda_cons pd_str (pda_cons (pd_fn F__law_pick hr (by omega) (pda_cons (pd_var 0) (pda_cons (pd_lst (pda_cons pd_str (pda_cons pd_str (pda_cons pd_str pda_nil)))) pda_nil))) (pda_cons (pd_fn F__law_data hr (by omega) (pda_cons (pd_var 0) (pda_cons pd_int pda_nil))) (pda_cons (pd_fn F__law_data hr (by omega) (pda_cons (pd_var 0) (pda_cons pd_int pda_nil))) pda_nil))))) pda_nil))))
      (pdss_one (pds_expr (pd_append (pd_var 2) (pda_cons (pd_if (pdt_cmp (op_eqM hr.units) dEqv_ok (pd_var 4) pd_int (by rfl)) (pd_tup (pda_cons pd_str (pda_cons (pd_fn F__law_text hr (by omega) (pda_cons (pd_var 0) pda_nil)) pda_nil))) (pd_tup (pda_cons pd_str (pda_cons (pd_fn F__law_draw hr (by omega) (pda_cons (pd_var 0) (pda_cons pd_int pda_nil))) (pda_cons (pd_fn F__law_draw hr (by omega) (pda_cons (pd_var 0) (pda_cons (pd_bin op_pow dPow_ok pd_int pd_int) pda_nil))) pda_nil))))) pda_nil))))))))))
      (pdss_one (pds_ret (pd_var 2)))))
theorem ok__law_records {P : Program} {w : World} {K : PySem.W.Frag} {mg : Str → Option Value} {base : Heap} {k : Nat} {m__law_text : List D → Store → Option (D × Store)} {m__law_data : List D → Store → Option (D × Store)} {m__law_draw : List D → Store → Option (D × Store)} {m__law_pick : List D → Store → Option (D × Store)} (M : MF w K mg) (F__law_text : Has P w K mg base k "_law_text" P__law_text m__law_text) (F__law_data : Has P w K mg base k "_law_data" P__law_data m__law_data) (F__law_draw : Has P w K mg base k "_law_draw" P__law_draw m__law_draw) (F__law_pick : Has P w K mg base k "_law_pick" P__law_pick m__law_pick) : Has P w K mg base (k + 1) "_law_records" P__law_records (runF N__law_records (ev__law_records m__law_text m__law_data m__law_draw m__law_pick) 2) :=
  Has.of M.f__law_records S__law_records (fun _ _ _ _ _ _ us hl => match us, hl with | [_, _], _ => rfl) (b__law_records M F__law_text F__law_data F__law_draw F__law_pick)
/-! is_integer -/
abbrev N_is_integer : List Str := ["value"]
theorem S_is_integer : FnScope N_is_integer P_is_integer (defScope s_is_integer) := ⟨rfl, rfl, rfl, by decide +kernel, rfl, by decide +kernel, by decide +kernel⟩
noncomputable def ev_is_integer  : EvS :=
  (evRet (evAnd (evCall dIsi (evCons (evVar 0) (evCons (evC (.ty "int")) evNil))) (evNot (evCall dIsi (evCons (evVar 0) (evCons (evC (.ty "bool")) evNil))))))
theorem b_is_integer {P : Program} {w : World} {K : PySem.W.Frag} {mg : Str → Option Value} {base : Heap} {k : Nat}  (M : MF w K mg) (f : Addr) (cdv : Value) (A : Around) (outer : List PySem.Env) (s : Shared) (H : Hp) (E : XK) (hr : Room k (A.deeper (envOfC "is_integer" (defScope s_is_integer) s.heap.objs.size f cdv))) :
    PDSs (cxOf CX0 P w K mg base N_is_integer "is_integer" (defScope s_is_integer) f cdv A outer s H E).nox (defBody s_is_integer) (ev_is_integer ) := by
  have Nd := S_is_integer.nd
  exact (pdss_one (pds_ret (pd_and (pd_isi M.n_isinstance (pda_cons (pd_var 0) (pda_cons (pd_bty (by rfl) M.n_int bt_int) pda_nil))) (pd_one (pd_not (pd_isi M.n_isinstance (pda_cons (pd_var 0) (pda_cons (pd_bty (by rfl) M.n_bool bt_bool) pda_nil))))))))
theorem ok_is_integer {P : Program} {w : World} {K : PySem.W.Frag} {mg : Str → Option Value} {base : Heap} {k : Nat}  (M : MF w K mg) : Has P w K mg base (k + 1) "is_integer" P_is_integer (runF N_is_integer (ev_is_integer ) 1) :=
  Has.of M.f_is_integer S_is_integer (fun _ _ _ _ _ _ us hl => match us, hl with | [_], _ => rfl) (b_is_integer M )
theorem okK_is_integer {P : Program} {w : World} {K : PySem.W.Frag} {mg : Str → Option Value} {base : Heap} {k : Nat}  (M : MF w K mg) : HasK P w K mg base (k + 1) "is_integer" "value" (runF N_is_integer (ev_is_integer ) 1) :=
  HasK.of M.f_is_integer S_is_integer (fun _ _ _ _ _ _ _ => rfl) (b_is_integer M )
/-! is_count -/
abbrev N_is_count : List Str := ["value"]
theorem S_is_count : FnScope N_is_count P_is_count (defScope s_is_count) := ⟨rfl, rfl, rfl, by decide +kernel, rfl, by decide +kernel, by decide +kernel⟩
noncomputable def ev_is_count (m_is_integer : List D → Store → Option (D × Store)) : EvS :=
  (evRet (evAnd (evCall m_is_integer (evCons (evVar 0) evNil)) (evCmp dGe (evVar 0) (evC (.int 0)))))
theorem b_is_count {P : Program} {w : World} {K : PySem.W.Frag} {mg : Str → Option Value} {base : Heap} {k : Nat} {m_is_integer : List D → Store → Option (D × Store)} (M : MF w K mg) (F_is_integer : Has P w K mg base k "is_integer" P_is_integer m_is_integer) (f : Addr) (cdv : Value) (A : Around) (outer : List PySem.Env) (s : Shared) (H : Hp) (E : XK) (hr : Room k (A.deeper (envOfC "is_count" (defScope s_is_count) s.heap.objs.size f cdv))) :
    PDSs (cxOf CX0 P w K mg base N_is_count "is_count" (defScope s_is_count) f cdv A outer s H E).nox (defBody s_is_count) (ev_is_count m_is_integer) := by
  have Nd := S_is_count.nd
  exact (pdss_one (pds_ret (pd_and (pd_fn F_is_integer hr (by omega) (pda_cons (pd_var 0) pda_nil)) (pd_one (pd_cmp op_ge dGe_ok (pd_var 0) pd_int (by rfl))))))
theorem ok_is_count {P : Program} {w : World} {K : PySem.W.Frag} {mg : Str → Option Value} {base : Heap} {k : Nat} {m_is_integer : List D → Store → Option (D × Store)} (M : MF w K mg) (F_is_integer : Has P w K mg base k "is_integer" P_is_integer m_is_integer) : Has P w K mg base (k + 1) "is_count" P_is_count (runF N_is_count (ev_is_count m_is_integer) 1) :=
  Has.of M.f_is_count S_is_count (fun _ _ _ _ _ _ us hl => match us, hl with | [_], _ => rfl) (b_is_count M F_is_integer)
theorem okK_is_count {P : Program} {w : World} {K : PySem.W.Frag} {mg : Str → Option Value} {base : Heap} {k : Nat} {m_is_integer : List D → Store → Option (D × Store)} (M : MF w K mg) (F_is_integer : Has P w K mg base k "is_integer" P_is_integer m_is_integer) : HasK P w K mg base (k + 1) "is_count" "value" (runF N_is_count (ev_is_count m_is_integer) 1) :=
  HasK.of M.f_is_count S_is_count (fun _ _ _ _ _ _ _ => rfl) (b_is_count M F_is_integer)
/-! is_number -/
abbrev N_is_number : List Str := ["value"]
theorem S_is_number : FnScope N_is_number P_is_number (defScope s_is_number) := ⟨rfl, rfl, rfl, by decide +kernel, rfl, by decide +kernel, by decide +kernel⟩
noncomputable def ev_is_number (m_is_count : List D → Store → Option (D × Store)) : EvS :=
  (evRet (evAnd (evCall m_is_count (evCons (evVar 0) evNil)) (evCmp dLt (evVar 0) (evC (.int (1000000000000))))))
theorem b_is_number {P : Program} {w : World} {K : PySem.W.Frag} {mg : Str → Option Value} {base : Heap} {k : Nat} {m_is_count : List D → Store → Option (D × Store)} (M : MF w K mg) (F_is_count : Has P w K mg base k "is_count" P_is_count m_is_count) (f : Addr) (cdv : Value) (A : Around) (outer : List PySem.Env) (s : Shared) (H : Hp) (E : XK) (hr : Room k (A.deeper (envOfC "is_number" (defScope s_is_number) s.heap.objs.size f cdv))) :
    PDSs (cxOf CX0 P w K mg base N_is_number "is_number" (defScope s_is_number) f cdv A outer s H E).nox (defBody s_is_number) (ev_is_number m_is_count) := by
  have Nd := S_is_number.nd
  exact (pdss_one (pds_ret (pd_and (pd_fn F_is_count hr (by omega) (pda_cons (pd_var 0) pda_nil)) (pd_one (pd_cmp op_lt dLt_ok (pd_var 0) (gC M.c_MOST_COUNT) (by rfl))))))
theorem ok_is_number {P : Program} {w : World} {K : PySem.W.Frag} {mg : Str → Option Value} {base : Heap} {k : Nat} {m_is_count : List D → Store → Option (D × Store)} (M : MF w K mg) (F_is_count : Has P w K mg base k "is_count" P_is_count m_is_count) : Has P w K mg base (k + 1) "is_number" P_is_number (runF N_is_number (ev_is_number m_is_count) 1) :=
  Has.of M.f_is_number S_is_number (fun _ _ _ _ _ _ us hl => match us, hl with | [_], _ => rfl) (b_is_number M F_is_count)
theorem okK_is_number {P : Program} {w : World} {K : PySem.W.Frag} {mg : Str → Option Value} {base : Heap} {k : Nat} {m_is_count : List D → Store → Option (D × Store)} (M : MF w K mg) (F_is_count : Has P w K mg base k "is_count" P_is_count m_is_count) : HasK P w K mg base (k + 1) "is_number" "value" (runF N_is_number (ev_is_number m_is_count) 1) :=
  HasK.of M.f_is_number S_is_number (fun _ _ _ _ _ _ _ => rfl) (b_is_number M F_is_count)
/-! is_row -/
abbrev N_is_row : List Str := ["value", "many"]
theorem S_is_row : FnScope N_is_row P_is_row (defScope s_is_row) := ⟨rfl, rfl, rfl, by decide +kernel, rfl, by decide +kernel, by decide +kernel⟩
noncomputable def ev_is_row  : EvS :=
  (evRet (evAnd (evCall dIsi (evCons (evVar 0) (evCons (evC (.ty "tuple")) evNil))) (evCmp (dEqv false) (evCall dLen (evCons (evVar 0) evNil)) (evVar 1))))
theorem b_is_row {P : Program} {w : World} {K : PySem.W.Frag} {mg : Str → Option Value} {base : Heap} {k : Nat}  (M : MF w K mg) (f : Addr) (cdv : Value) (A : Around) (outer : List PySem.Env) (s : Shared) (H : Hp) (E : XK) (hr : Room k (A.deeper (envOfC "is_row" (defScope s_is_row) s.heap.objs.size f cdv))) :
    PDSs (cxOf CX0 P w K mg base N_is_row "is_row" (defScope s_is_row) f cdv A outer s H E).nox (defBody s_is_row) (ev_is_row ) := by
  have Nd := S_is_row.nd
  exact (pdss_one (pds_ret (pd_and (pd_isi M.n_isinstance (pda_cons (pd_var 0) (pda_cons (pd_bty (by rfl) M.n_tuple bt_tuple) pda_nil))) (pd_one (pd_cmp (op_eqM hr.units) dEqv_ok (pd_len M.n_len (pda_cons (pd_var 0) pda_nil)) (pd_var 1) (by rfl))))))
theorem ok_is_row {P : Program} {w : World} {K : PySem.W.Frag} {mg : Str → Option Value} {base : Heap} {k : Nat}  (M : MF w K mg) : Has P w K mg base (k + 1) "is_row" P_is_row (runF N_is_row (ev_is_row ) 2) :=
  Has.of M.f_is_row S_is_row (fun _ _ _ _ _ _ us hl => match us, hl with | [_, _], _ => rfl) (b_is_row M )
/-! is_text -/
abbrev N_is_text : List Str := ["value", "least", "sign"]
theorem S_is_text : FnScope N_is_text P_is_text (defScope s_is_text) := ⟨rfl, rfl, rfl, by decide +kernel, rfl, by decide +kernel, by decide +kernel⟩
noncomputable def ev_is_text  : EvS :=
  (evSeq (evIfS (evOrT (evNotT (evTest (evCall dIsi (evCons (evVar 0) (evCons (evC (.ty "str")) evNil))))) (evNotT (evTChain dLe dLe (evVar 1) (evCall dLen (evCons (evVar 0) evNil)) (evC (.int (20000))))))
  (evRet (evC (.bl false)))
  evNx)
  (evRet (evCall dAll (evCons (evComp (eiStr (evVar 0)) (egC1 2) evYes (evOr (evCmp (dEqv false) (evVar 2) (evC (.str "\n"))) (evAnd (evChain dLe dLe (evC (.str " ")) (evVar 2) (evC (.str "~"))) (evCmp (dEqv true) (evVar 2) (evC (.str "\\"))))) [2]) evNil))))
theorem b_is_text {P : Program} {w : World} {K : PySem.W.Frag} {mg : Str → Option Value} {base : Heap} {k : Nat}  (M : MF w K mg) (f : Addr) (cdv : Value) (A : Around) (outer : List PySem.Env) (s : Shared) (H : Hp) (E : XK) (hr : Room k (A.deeper (envOfC "is_text" (defScope s_is_text) s.heap.objs.size f cdv))) :
    PDSs (cxOf CX0 P w K mg base N_is_text "is_text" (defScope s_is_text) f cdv A outer s H E).nox (defBody s_is_text) (ev_is_text ) := by
  have Nd := S_is_text.nd
  exact (pdss_cons (pds_if (pdt_w (pdw_or (pdt_not (pdt_val (pd_isi M.n_isinstance (pda_cons (pd_var 0) (pda_cons (pd_bty (by rfl) M.n_str bt_str) pda_nil))))) (pdw_or1 (pdt_not (pdt_chain opLe dLe_ok opLe dLe_ok (pd_var 1) (pd_len M.n_len (pda_cons (pd_var 0) pda_nil)) (gC M.c_MOST_TEXT))))))
      (pdss_one (pds_ret pd_bl))
      pdss_nil)
      (pdss_one (pds_ret (pd_all rfl M.n_all (pda_cons (pd_lc rfl Nd (pdi_str (pd_var 0)) (blkOk_by (own := [("sign", 2)]) (by show blkC N_is_text (defScope s_is_text) _ _ = true; decide +kernel)) (cg_name 2) (fun _ _ _ _ _ => (pg_name (i := 2) Nd rfl (Or.inl rfl) (.inr rfl))) (fun _ _ _ _ _ => pdts_nil) (fun _ _ _ _ _ => (pd_or (pd_cmp (op_eqM hr.units) dEqv_ok (pd_var 2) (gC M.c_FEED) (by rfl)) (pd_one (pd_and (pd_chain opLe dLe_ok opLe dLe_ok pd_str (pd_var 2) pd_str) (pd_one (pd_cmp (op_neM hr.units) dEqv_ok (pd_var 2) (gC M.c_MARK) (by rfl)))))))) pda_nil)))))
theorem ok_is_text {P : Program} {w : World} {K : PySem.W.Frag} {mg : Str → Option Value} {base : Heap} {k : Nat}  (M : MF w K mg) : Has P w K mg base (k + 1) "is_text" P_is_text (runF N_is_text (ev_is_text ) 2) :=
  Has.of M.f_is_text S_is_text (fun _ _ _ _ _ _ us hl => match us, hl with | [_, _], _ => rfl) (b_is_text M )
/-! has_signs -/
abbrev N_has_signs : List Str := ["value", "first", "others", "sign"]
theorem S_has_signs : FnScope N_has_signs P_has_signs (defScope s_has_signs) := ⟨rfl, rfl, rfl, by decide +kernel, rfl, by decide +kernel, by decide +kernel⟩
noncomputable def ev_has_signs  : EvS :=
  (evSeq (evIfS (evOrT (evNotT (evTest (evCall dIsi (evCons (evVar 0) (evCons (evC (.ty "str")) evNil))))) (evNotT (evTChain dLe dLe (evC (.int 1)) (evCall dLen (evCons (evVar 0) evNil)) (evC (.int (12))))))
  (evRet (evC (.bl false)))
  evNx)
  (evRet (evAnd (evCmp (dIn false) (evBin dIx (evVar 0) (evC (.int 0))) (evVar 1)) (evCall dAll (evCons (evComp (eiStr (evVar 0)) (egC1 3) evYes (evCmp (dIn false) (evVar 3) (evVar 2)) [3]) evNil)))))
theorem b_has_signs {P : Program} {w : World} {K : PySem.W.Frag} {mg : Str → Option Value} {base : Heap} {k : Nat}  (M : MF w K mg) (f : Addr) (cdv : Value) (A : Around) (outer : List PySem.Env) (s : Shared) (H : Hp) (E : XK) (hr : Room k (A.deeper (envOfC "has_signs" (defScope s_has_signs) s.heap.objs.size f cdv))) :
    PDSs (cxOf CX0 P w K mg base N_has_signs "has_signs" (defScope s_has_signs) f cdv A outer s H E).nox (defBody s_has_signs) (ev_has_signs ) := by
  have Nd := S_has_signs.nd
  exact (pdss_cons (pds_if (pdt_w (pdw_or (pdt_not (pdt_val (pd_isi M.n_isinstance (pda_cons (pd_var 0) (pda_cons (pd_bty (by rfl) M.n_str bt_str) pda_nil))))) (pdw_or1 (pdt_not (pdt_chain opLe dLe_ok opLe dLe_ok pd_int (pd_len M.n_len (pda_cons (pd_var 0) pda_nil)) (gC M.c_MOST_SIGNS_words))))))
      (pdss_one (pds_ret pd_bl))
      pdss_nil)
      (pdss_one (pds_ret (pd_and (pd_cmp (opIn (u65 hr)) (dIn_ok false) (pd_ix ix_seq dIx_ok (pd_var 0) pd_int (fun _ _ => rfl)) (pd_var 1) (by rfl)) (pd_one (pd_all rfl M.n_all (pda_cons (pd_lc rfl Nd (pdi_str (pd_var 0)) (blkOk_by (own := [("sign", 3)]) (by show blkC N_has_signs (defScope s_has_signs) _ _ = true; decide +kernel)) (cg_name 3) (fun _ _ _ _ _ => (pg_name (i := 3) Nd rfl (Or.inl rfl) (.inr rfl))) (fun _ _ _ _ _ => pdts_nil) (fun _ _ _ _ _ => (pd_cmp (opIn (u65 hr)) (dIn_ok false) (pd_var 3) (pd_var 2) (by rfl)))) pda_nil)))))))
theorem ok_has_signs {P : Program} {w : World} {K : PySem.W.Frag} {mg : Str → Option Value} {base : Heap} {k : Nat}  (M : MF w K mg) : Has P w K mg base (k + 1) "has_signs" P_has_signs (runF N_has_signs (ev_has_signs ) 3) :=
  Has.of M.f_has_signs S_has_signs (fun _ _ _ _ _ _ us hl => match us, hl with | [_, _, _], _ => rfl) (b_has_signs M )
/-! is_input_name -/
abbrev N_is_input_name : List Str := ["value"]
theorem S_is_input_name : FnScope N_is_input_name P_is_input_name (defScope s_is_input_name) := ⟨rfl, rfl, rfl, by decide +kernel, rfl, by decide +kernel, by decide +kernel⟩
noncomputable def ev_is_input_name (m_has_signs : List D → Store → Option (D × Store)) : EvS :=
  (evRet (evCall m_has_signs (evCons (evVar 0) (evCons (evC (.str "ABCDEFGHIJKLMNOPQRSTUVWXYZ")) (evCons (evBin dAdd (evBin dAdd (evC (.str "abcdefghijklmnopqrstuvwxyz")) (evC (.str "ABCDEFGHIJKLMNOPQRSTUVWXYZ"))) (evC (.str "0123456789"))) evNil)))))
theorem b_is_input_name {P : Program} {w : World} {K : PySem.W.Frag} {mg : Str → Option Value} {base : Heap} {k : Nat} {m_has_signs : List D → Store → Option (D × Store)} (M : MF w K mg) (F_has_signs : Has P w K mg base k "has_signs" P_has_signs m_has_signs) (f : Addr) (cdv : Value) (A : Around) (outer : List PySem.Env) (s : Shared) (H : Hp) (E : XK) (hr : Room k (A.deeper (envOfC "is_input_name" (defScope s_is_input_name) s.heap.objs.size f cdv))) :
    PDSs (cxOf CX0 P w K mg base N_is_input_name "is_input_name" (defScope s_is_input_name) f cdv A outer s H E).nox (defBody s_is_input_name) (ev_is_input_name m_has_signs) := by
  have Nd := S_is_input_name.nd
  exact (pdss_one (pds_ret (pd_fn F_has_signs hr (by omega) (pda_cons (pd_var 0) (pda_cons (gC M.c_GREAT) (pda_cons (pd_bin opAdd dAdd_ok (pd_bin opAdd dAdd_ok (gC M.c_SMALL) (gC M.c_GREAT)) (gC M.c_FIGURES)) pda_nil))))))
theorem ok_is_input_name {P : Program} {w : World} {K : PySem.W.Frag} {mg : Str → Option Value} {base : Heap} {k : Nat} {m_has_signs : List D → Store → Option (D × Store)} (M : MF w K mg) (F_has_signs : Has P w K mg base k "has_signs" P_has_signs m_has_signs) : Has P w K mg base (k + 1) "is_input_name" P_is_input_name (runF N_is_input_name (ev_is_input_name m_has_signs) 1) :=
  Has.of M.f_is_input_name S_is_input_name (fun _ _ _ _ _ _ us hl => match us, hl with | [_], _ => rfl) (b_is_input_name M F_has_signs)
theorem okK_is_input_name {P : Program} {w : World} {K : PySem.W.Frag} {mg : Str → Option Value} {base : Heap} {k : Nat} {m_has_signs : List D → Store → Option (D × Store)} (M : MF w K mg) (F_has_signs : Has P w K mg base k "has_signs" P_has_signs m_has_signs) : HasK P w K mg base (k + 1) "is_input_name" "value" (runF N_is_input_name (ev_is_input_name m_has_signs) 1) :=
  HasK.of M.f_is_input_name S_is_input_name (fun _ _ _ _ _ _ _ => rfl) (b_is_input_name M F_has_signs)
/-! is_int -/
abbrev N_is_int : List Str := ["value"]
theorem S_is_int : FnScope N_is_int P_is_int (defScope s_is_int) := ⟨rfl, rfl, rfl, by decide +kernel, rfl, by decide +kernel, by decide +kernel⟩
noncomputable def ev_is_int (m_is_integer : List D → Store → Option (D × Store)) : EvS :=
  (evRet (evAnd (evCall m_is_integer (evCons (evVar 0) evNil)) (evChain dLe dLe (evC (.int (-2147483648))) (evVar 0) (evC (.int (2147483647))))))
theorem b_is_int {P : Program} {w : World} {K : PySem.W.Frag} {mg : Str → Option Value} {base : Heap} {k : Nat} {m_is_integer : List D → Store → Option (D × Store)} (M : MF w K mg) (F_is_integer : Has P w K mg base k "is_integer" P_is_integer m_is_integer) (f : Addr) (cdv : Value) (A : Around) (outer : List PySem.Env) (s : Shared) (H : Hp) (E : XK) (hr : Room k (A.deeper (envOfC "is_int" (defScope s_is_int) s.heap.objs.size f cdv))) :
    PDSs (cxOf CX0 P w K mg base N_is_int "is_int" (defScope s_is_int) f cdv A outer s H E).nox (defBody s_is_int) (ev_is_int m_is_integer) := by
  have Nd := S_is_int.nd
  exact (pdss_one (pds_ret (pd_and (pd_fn F_is_integer hr (by omega) (pda_cons (pd_var 0) pda_nil)) (pd_one (pd_chain opLe dLe_ok opLe dLe_ok (gC M.c_LEAST_INT) (pd_var 0) (gC M.c_MOST_INT))))))
theorem ok_is_int {P : Program} {w : World} {K : PySem.W.Frag} {mg : Str → Option Value} {base : Heap} {k : Nat} {m_is_integer : List D → Store → Option (D × Store)} (M : MF w K mg) (F_is_integer : Has P w K mg base k "is_integer" P_is_integer m_is_integer) : Has P w K mg base (k + 1) "is_int" P_is_int (runF N_is_int (ev_is_int m_is_integer) 1) :=
  Has.of M.f_is_int S_is_int (fun _ _ _ _ _ _ us hl => match us, hl with | [_], _ => rfl) (b_is_int M F_is_integer)
theorem okK_is_int {P : Program} {w : World} {K : PySem.W.Frag} {mg : Str → Option Value} {base : Heap} {k : Nat} {m_is_integer : List D → Store → Option (D × Store)} (M : MF w K mg) (F_is_integer : Has P w K mg base k "is_integer" P_is_integer m_is_integer) : HasK P w K mg base (k + 1) "is_int" "value" (runF N_is_int (ev_is_int m_is_integer) 1) :=
  HasK.of M.f_is_int S_is_int (fun _ _ _ _ _ _ _ => rfl) (b_is_int M F_is_integer)
/-! is_name -/
abbrev N_is_name : List Str := ["value"]
theorem S_is_name : FnScope N_is_name P_is_name (defScope s_is_name) := ⟨rfl, rfl, rfl, by decide +kernel, rfl, by decide +kernel, by decide +kernel⟩
noncomputable def ev_is_name (m_has_signs : List D → Store → Option (D × Store)) : EvS :=
  (evRet (evAnd (evCall m_has_signs (evCons (evVar 0) (evCons (evC (.str "abcdefghijklmnopqrstuvwxyz")) (evCons (evBin dAdd (evBin dAdd (evC (.str "abcdefghijklmnopqrstuvwxyz")) (evC (.str "0123456789"))) (evC (.str "_"))) evNil)))) (evCmp (dIn true) (evVar 0) (evC (.tup [(.str "do"), (.str "else"), (.str "end"), (.str "false"), (.str "fn"), (.str "fst"), (.str "if"), (.str "in"), (.str "input"), (.str "let"), (.str "match"), (.str "module"), (.str "read"), (.str "rec"), (.str "snd"), (.str "then"), (.str "true"), (.str "use"), (.str "with"), (.str "int"), (.str "bool"), (.str "unit")])))))
theorem b_is_name {P : Program} {w : World} {K : PySem.W.Frag} {mg : Str → Option Value} {base : Heap} {k : Nat} {m_has_signs : List D → Store → Option (D × Store)} (M : MF w K mg) (F_has_signs : Has P w K mg base k "has_signs" P_has_signs m_has_signs) (f : Addr) (cdv : Value) (A : Around) (outer : List PySem.Env) (s : Shared) (H : Hp) (E : XK) (hr : Room k (A.deeper (envOfC "is_name" (defScope s_is_name) s.heap.objs.size f cdv))) :
    PDSs (cxOf CX0 P w K mg base N_is_name "is_name" (defScope s_is_name) f cdv A outer s H E).nox (defBody s_is_name) (ev_is_name m_has_signs) := by
  have Nd := S_is_name.nd
  exact (pdss_one (pds_ret (pd_and (pd_fn F_has_signs hr (by omega) (pda_cons (pd_var 0) (pda_cons (gC M.c_SMALL) (pda_cons (pd_bin opAdd dAdd_ok (pd_bin opAdd dAdd_ok (gC M.c_SMALL) (gC M.c_FIGURES)) pd_str) pda_nil)))) (pd_one (pd_cmp (opNotIn (u65 hr)) (dIn_ok true) (pd_var 0) (gC M.c_RESERVED) (by rfl))))))
theorem ok_is_name {P : Program} {w : World} {K : PySem.W.Frag} {mg : Str → Option Value} {base : Heap} {k : Nat} {m_has_signs : List D → Store → Option (D × Store)} (M : MF w K mg) (F_has_signs : Has P w K mg base k "has_signs" P_has_signs m_has_signs) : Has P w K mg base (k + 1) "is_name" P_is_name (runF N_is_name (ev_is_name m_has_signs) 1) :=
  Has.of M.f_is_name S_is_name (fun _ _ _ _ _ _ us hl => match us, hl with | [_], _ => rfl) (b_is_name M F_has_signs)
theorem okK_is_name {P : Program} {w : World} {K : PySem.W.Frag} {mg : Str → Option Value} {base : Heap} {k : Nat} {m_has_signs : List D → Store → Option (D × Store)} (M : MF w K mg) (F_has_signs : Has P w K mg base k "has_signs" P_has_signs m_has_signs) : HasK P w K mg base (k + 1) "is_name" "value" (runF N_is_name (ev_is_name m_has_signs) 1) :=
  HasK.of M.f_is_name S_is_name (fun _ _ _ _ _ _ _ => rfl) (b_is_name M F_has_signs)
/-! are_two_names -/
abbrev N_are_two_names : List Str := ["one", "other"]
theorem S_are_two_names : FnScope N_are_two_names P_are_two_names (defScope s_are_two_names) := ⟨rfl, rfl, rfl, by decide +kernel, rfl, by decide +kernel, by decide +kernel⟩
noncomputable def ev_are_two_names (m_is_name : List D → Store → Option (D × Store)) : EvS :=
  (evRet (evAnd (evCall m_is_name (evCons (evVar 0) evNil)) (evAnd (evCall m_is_name (evCons (evVar 1) evNil)) (evCmp (dEqv true) (evVar 0) (evVar 1)))))
theorem b_are_two_names {P : Program} {w : World} {K : PySem.W.Frag} {mg : Str → Option Value} {base : Heap} {k : Nat} {m_is_name : List D → Store → Option (D × Store)} (M : MF w K mg) (F_is_name : Has P w K mg base k "is_name" P_is_name m_is_name) (f : Addr) (cdv : Value) (A : Around) (outer : List PySem.Env) (s : Shared) (H : Hp) (E : XK) (hr : Room k (A.deeper (envOfC "are_two_names" (defScope s_are_two_names) s.heap.objs.size f cdv))) :
    PDSs (cxOf CX0 P w K mg base N_are_two_names "are_two_names" (defScope s_are_two_names) f cdv A outer s H E).nox (defBody s_are_two_names) (ev_are_two_names m_is_name) := by
  have Nd := S_are_two_names.nd
  exact (pdss_one (pds_ret (pd_and (pd_fn F_is_name hr (by omega) (pda_cons (pd_var 0) pda_nil)) (pd_and (pd_fn F_is_name hr (by omega) (pda_cons (pd_var 1) pda_nil)) (pd_one (pd_cmp (op_neM hr.units) dEqv_ok (pd_var 0) (pd_var 1) (by rfl)))))))
theorem ok_are_two_names {P : Program} {w : World} {K : PySem.W.Frag} {mg : Str → Option Value} {base : Heap} {k : Nat} {m_is_name : List D → Store → Option (D × Store)} (M : MF w K mg) (F_is_name : Has P w K mg base k "is_name" P_is_name m_is_name) : Has P w K mg base (k + 1) "are_two_names" P_are_two_names (runF N_are_two_names (ev_are_two_names m_is_name) 2) :=
  Has.of M.f_are_two_names S_are_two_names (fun _ _ _ _ _ _ us hl => match us, hl with | [_, _], _ => rfl) (b_are_two_names M F_is_name)
/-! is_sign -/
abbrev N_is_sign : List Str := ["value"]
theorem S_is_sign : FnScope N_is_sign P_is_sign (defScope s_is_sign) := ⟨rfl, rfl, rfl, by decide +kernel, rfl, by decide +kernel, by decide +kernel⟩
noncomputable def ev_is_sign  : EvS :=
  (evRet (evAnd (evCall dIsi (evCons (evVar 0) (evCons (evC (.ty "str")) evNil))) (evCmp (dIn false) (evVar 0) (evC (.tup [(.str "+"), (.str "-"), (.str "*"), (.str "<"), (.str "=")])))))
theorem b_is_sign {P : Program} {w : World} {K : PySem.W.Frag} {mg : Str → Option Value} {base : Heap} {k : Nat}  (M : MF w K mg) (f : Addr) (cdv : Value) (A : Around) (outer : List PySem.Env) (s : Shared) (H : Hp) (E : XK) (hr : Room k (A.deeper (envOfC "is_sign" (defScope s_is_sign) s.heap.objs.size f cdv))) :
    PDSs (cxOf CX0 P w K mg base N_is_sign "is_sign" (defScope s_is_sign) f cdv A outer s H E).nox (defBody s_is_sign) (ev_is_sign ) := by
  have Nd := S_is_sign.nd
  exact (pdss_one (pds_ret (pd_and (pd_isi M.n_isinstance (pda_cons (pd_var 0) (pda_cons (pd_bty (by rfl) M.n_str bt_str) pda_nil))) (pd_one (pd_cmp (opIn (u65 hr)) (dIn_ok false) (pd_var 0) (gC M.c_SIGNS) (by rfl))))))
theorem ok_is_sign {P : Program} {w : World} {K : PySem.W.Frag} {mg : Str → Option Value} {base : Heap} {k : Nat}  (M : MF w K mg) : Has P w K mg base (k + 1) "is_sign" P_is_sign (runF N_is_sign (ev_is_sign ) 1) :=
  Has.of M.f_is_sign S_is_sign (fun _ _ _ _ _ _ us hl => match us, hl with | [_], _ => rfl) (b_is_sign M )
theorem okK_is_sign {P : Program} {w : World} {K : PySem.W.Frag} {mg : Str → Option Value} {base : Heap} {k : Nat}  (M : MF w K mg) : HasK P w K mg base (k + 1) "is_sign" "value" (runF N_is_sign (ev_is_sign ) 1) :=
  HasK.of M.f_is_sign S_is_sign (fun _ _ _ _ _ _ _ => rfl) (b_is_sign M )
/-! is_node -/
abbrev N_is_node : List Str := ["value", "word"]
theorem S_is_node : FnScope N_is_node P_is_node (defScope s_is_node) := ⟨rfl, rfl, rfl, by decide +kernel, rfl, by decide +kernel, by decide +kernel⟩
noncomputable def ev_is_node (m_is_int : List D → Store → Option (D × Store)) (m_is_name : List D → Store → Option (D × Store)) (m_are_two_names : List D → Store → Option (D × Store)) (m_is_sign : List D → Store → Option (D × Store)) (m_is_input_name : List D → Store → Option (D × Store)) : EvS :=
  (evSeq (evIfS (evOrT (evNotT (evTest (evCall dIsi (evCons (evVar 0) (evCons (evC (.ty "tuple")) evNil))))) (evOrT (evTCmp (dEqv false) (evVar 0) (evTup evNil)) (evNotT (evTest (evCall dIsi (evCons (evBin dIx (evVar 0) (evC (.int 0))) (evCons (evC (.ty "str")) evNil)))))))
  (evRet (evC (.bl false)))
  evNx)
  (evSeq (evAsg (evBin dIx (evVar 0) (evC (.int 0))) (egName 1))
  (evSeq (evIfS (evOrT (evTKIn true tab_LONG (evVar 1)) (evTCmp (dEqv true) (evCall dLen (evCons (evVar 0) evNil)) (evKIx tab_LONG (evVar 1))))
  (evRet (evC (.bl false)))
  evNx)
  (evSeq (evIfS (evTCmp (dEqv false) (evVar 1) (evC (.str "int")))
  (evRet (evCall m_is_int (evCons (evBin dIx (evVar 0) (evC (.int 1))) evNil)))
  evNx)
  (evSeq (evIfS (evTCmp (dEqv false) (evVar 1) (evC (.str "bool")))
  (evRet (evCall dIsi (evCons (evBin dIx (evVar 0) (evC (.int 1))) (evCons (evC (.ty "bool")) evNil))))
  evNx)
  (evSeq (evIfS (evTCmp (dIn false) (evVar 1) (evTup (evCons (evC (.str "var")) (evCons (evC (.str "fn")) (evCons (evC (.str "let")) evNil)))))
  (evRet (evCall m_is_name (evCons (evBin dIx (evVar 0) (evC (.int 1))) evNil)))
  evNx)
  (evSeq (evIfS (evTCmp (dEqv false) (evVar 1) (evC (.str "rec")))
  (evRet (evCall m_are_two_names (evCons (evBin dIx (evVar 0) (evC (.int 1))) (evCons (evBin dIx (evVar 0) (evC (.int 2))) evNil))))
  evNx)
  (evSeq (evIfS (evTCmp (dEqv false) (evVar 1) (evC (.str "op")))
  (evRet (evCall m_is_sign (evCons (evBin dIx (evVar 0) (evC (.int 1))) evNil)))
  evNx)
  (evSeq (evIfS (evTCmp (dEqv false) (evVar 1) (evC (.str "match")))
  (evRet (evCall m_are_two_names (evCons (evBin dIx (evVar 0) (evC (.int 3))) (evCons (evBin dIx (evVar 0) (evC (.int 4))) evNil))))
  evNx)
  (evRet (evOr (evCmp (dEqv true) (evVar 1) (evC (.str "read"))) (evCall m_is_input_name (evCons (evBin dIx (evVar 0) (evC (.int 1))) evNil)))))))))))))
theorem b_is_node {P : Program} {w : World} {K : PySem.W.Frag} {mg : Str → Option Value} {base : Heap} {k : Nat} {m_is_int : List D → Store → Option (D × Store)} {m_is_name : List D → Store → Option (D × Store)} {m_are_two_names : List D → Store → Option (D × Store)} {m_is_sign : List D → Store → Option (D × Store)} {m_is_input_name : List D → Store → Option (D × Store)} (M : MF w K mg) (F_is_int : Has P w K mg base k "is_int" P_is_int m_is_int) (F_is_name : Has P w K mg base k "is_name" P_is_name m_is_name) (F_are_two_names : Has P w K mg base k "are_two_names" P_are_two_names m_are_two_names) (F_is_sign : Has P w K mg base k "is_sign" P_is_sign m_is_sign) (F_is_input_name : Has P w K mg base k "is_input_name" P_is_input_name m_is_input_name) (f : Addr) (cdv : Value) (A : Around) (outer : List PySem.Env) (s : Shared) (H : Hp) (E : XK) (hr : Room k (A.deeper (envOfC "is_node" (defScope s_is_node) s.heap.objs.size f cdv))) :
    PDSs (cxOf CX0 P w K mg base N_is_node "is_node" (defScope s_is_node) f cdv A outer s H E).nox (defBody s_is_node) (ev_is_node m_is_int m_is_name m_are_two_names m_is_sign m_is_input_name) := by
  have Nd := S_is_node.nd
  exact (pdss_cons (pds_if (pdt_w (pdw_or (pdt_not (pdt_val (pd_isi M.n_isinstance (pda_cons (pd_var 0) (pda_cons (pd_bty (by rfl) M.n_tuple bt_tuple) pda_nil))))) (pdw_or (pdt_cmp (op_eqM hr.units) dEqv_ok (pd_var 0) (pd_tup pda_nil) (by rfl)) (pdw_or1 (pdt_not (pdt_val (pd_isi M.n_isinstance (pda_cons (pd_ix ix_seq dIx_ok (pd_var 0) pd_int (fun _ _ => rfl)) (pda_cons (pd_bty (by rfl) M.n_str bt_str) pda_nil)))))))))
      (pdss_one (pds_ret pd_bl))
      pdss_nil)
      (pdss_cons (pds_set 1 Nd (pd_ix ix_seq dIx_ok (pd_var 0) pd_int (fun _ _ => rfl)))
      (pdss_cons (pds_if (pdt_w (pdw_or (tInN M.t_LONG (pd_var 1)) (pdw_or1 (pdt_cmp (op_neM hr.units) dEqv_ok (pd_len M.n_len (pda_cons (pd_var 0) pda_nil)) (xK M.t_LONG (pd_var 1)) (by rfl)))))
      (pdss_one (pds_ret pd_bl))
      pdss_nil)
      (pdss_cons (pds_if (pdt_cmp (op_eqM hr.units) dEqv_ok (pd_var 1) (gC M.c_INT) (by rfl))
      (pdss_one (pds_ret (pd_fn F_is_int hr (by omega) (pda_cons (pd_ix ix_seq dIx_ok (pd_var 0) pd_int (fun _ _ => rfl)) pda_nil))))
      pdss_nil)
      (pdss_cons (pds_if (pdt_cmp (op_eqM hr.units) dEqv_ok (pd_var 1) (gC M.c_BOOL) (by rfl))
      (pdss_one (pds_ret (pd_isi M.n_isinstance (pda_cons (pd_ix ix_seq dIx_ok (pd_var 0) pd_int (fun _ _ => rfl)) (pda_cons (pd_bty (by rfl) M.n_bool bt_bool) pda_nil)))))
      pdss_nil)
      (pdss_cons (pds_if (pdt_cmp (opIn (u65 hr)) (dIn_ok false) (pd_var 1) (pd_tup (pda_cons (gC M.c_VAR) (pda_cons (gC M.c_FN) (pda_cons (gC M.c_LET) pda_nil)))) (by rfl))
      (pdss_one (pds_ret (pd_fn F_is_name hr (by omega) (pda_cons (pd_ix ix_seq dIx_ok (pd_var 0) pd_int (fun _ _ => rfl)) pda_nil))))
      pdss_nil)
      (pdss_cons (pds_if (pdt_cmp (op_eqM hr.units) dEqv_ok (pd_var 1) (gC M.c_REC) (by rfl))
      (pdss_one (pds_ret (pd_fn F_are_two_names hr (by omega) (pda_cons (pd_ix ix_seq dIx_ok (pd_var 0) pd_int (fun _ _ => rfl)) (pda_cons (pd_ix ix_seq dIx_ok (pd_var 0) pd_int (fun _ _ => rfl)) pda_nil)))))
      pdss_nil)
      (pdss_cons (pds_if (pdt_cmp (op_eqM hr.units) dEqv_ok (pd_var 1) (gC M.c_OP) (by rfl))
      (pdss_one (pds_ret (pd_fn F_is_sign hr (by omega) (pda_cons (pd_ix ix_seq dIx_ok (pd_var 0) pd_int (fun _ _ => rfl)) pda_nil))))
      pdss_nil)
      (pdss_cons (pds_if (pdt_cmp (op_eqM hr.units) dEqv_ok (pd_var 1) (gC M.c_MATCH) (by rfl))
      (pdss_one (pds_ret (pd_fn F_are_two_names hr (by omega) (pda_cons (pd_ix ix_seq dIx_ok (pd_var 0) pd_int (fun _ _ => rfl)) (pda_cons (pd_ix ix_seq dIx_ok (pd_var 0) pd_int (fun _ _ => rfl)) pda_nil)))))
      pdss_nil)
      (pdss_one (pds_ret (pd_or (pd_cmp (op_neM hr.units) dEqv_ok (pd_var 1) (gC M.c_READ) (by rfl)) (pd_one (pd_fn F_is_input_name hr (by omega) (pda_cons (pd_ix ix_seq dIx_ok (pd_var 0) pd_int (fun _ _ => rfl)) pda_nil)))))))))))))))
theorem ok_is_node {P : Program} {w : World} {K : PySem.W.Frag} {mg : Str → Option Value} {base : Heap} {k : Nat} {m_is_int : List D → Store → Option (D × Store)} {m_is_name : List D → Store → Option (D × Store)} {m_are_two_names : List D → Store → Option (D × Store)} {m_is_sign : List D → Store → Option (D × Store)} {m_is_input_name : List D → Store → Option (D × Store)} (M : MF w K mg) (F_is_int : Has P w K mg base k "is_int" P_is_int m_is_int) (F_is_name : Has P w K mg base k "is_name" P_is_name m_is_name) (F_are_two_names : Has P w K mg base k "are_two_names" P_are_two_names m_are_two_names) (F_is_sign : Has P w K mg base k "is_sign" P_is_sign m_is_sign) (F_is_input_name : Has P w K mg base k "is_input_name" P_is_input_name m_is_input_name) : Has P w K mg base (k + 1) "is_node" P_is_node (runF N_is_node (ev_is_node m_is_int m_is_name m_are_two_names m_is_sign m_is_input_name) 1) :=
  Has.of M.f_is_node S_is_node (fun _ _ _ _ _ _ us hl => match us, hl with | [_], _ => rfl) (b_is_node M F_is_int F_is_name F_are_two_names F_is_sign F_is_input_name)
theorem okK_is_node {P : Program} {w : World} {K : PySem.W.Frag} {mg : Str → Option Value} {base : Heap} {k : Nat} {m_is_int : List D → Store → Option (D × Store)} {m_is_name : List D → Store → Option (D × Store)} {m_are_two_names : List D → Store → Option (D × Store)} {m_is_sign : List D → Store → Option (D × Store)} {m_is_input_name : List D → Store → Option (D × Store)} (M : MF w K mg) (F_is_int : Has P w K mg base k "is_int" P_is_int m_is_int) (F_is_name : Has P w K mg base k "is_name" P_is_name m_is_name) (F_are_two_names : Has P w K mg base k "are_two_names" P_are_two_names m_are_two_names) (F_is_sign : Has P w K mg base k "is_sign" P_is_sign m_is_sign) (F_is_input_name : Has P w K mg base k "is_input_name" P_is_input_name m_is_input_name) : HasK P w K mg base (k + 1) "is_node" "value" (runF N_is_node (ev_is_node m_is_int m_is_name m_are_two_names m_is_sign m_is_input_name) 1) :=
  HasK.of M.f_is_node S_is_node (fun _ _ _ _ _ _ _ => rfl) (b_is_node M F_is_int F_is_name F_are_two_names F_is_sign F_is_input_name)
/-! children_of -/
abbrev N_children_of : List Str := ["term", "at"]
theorem S_children_of : FnScope N_children_of P_children_of (defScope s_children_of) := ⟨rfl, rfl, rfl, by decide +kernel, rfl, by decide +kernel, by decide +kernel⟩
noncomputable def ev_children_of  : EvS :=
  (evRet (evCall dTuple (evCons (evComp (eiTup (evKIx tab_CHILDREN (evBin dIx (evVar 0) (evC (.int 0))))) (egC1 1) evYes (evBin dIx (evVar 0) (evVar 1)) [1]) evNil)))
theorem b_children_of {P : Program} {w : World} {K : PySem.W.Frag} {mg : Str → Option Value} {base : Heap} {k : Nat}  (M : MF w K mg) (f : Addr) (cdv : Value) (A : Around) (outer : List PySem.Env) (s : Shared) (H : Hp) (E : XK) (hr : Room k (A.deeper (envOfC "children_of" (defScope s_children_of) s.heap.objs.size f cdv))) :
    PDSs (cxOf CX0 P w K mg base N_children_of "children_of" (defScope s_children_of) f cdv A outer s H E).nox (defBody s_children_of) (ev_children_of ) := by
  have Nd := S_children_of.nd
  exact (pdss_one (pds_ret (pd_tuple_ M.n_tuple (pda_cons (pd_lc rfl Nd (pdi_tup (xK M.t_CHILDREN (pd_ix ix_seq dIx_ok (pd_var 0) pd_int (fun _ _ => rfl)))) (blkOk_by (own := [("at", 1)]) (by show blkC N_children_of (defScope s_children_of) _ _ = true; decide +kernel)) (cg_name 1) (fun _ _ _ _ _ => (pg_name (i := 1) Nd rfl (Or.inl rfl) (.inr rfl))) (fun _ _ _ _ _ => pdts_nil) (fun _ _ _ _ _ => (pd_ix ix_seq dIx_ok (pd_var 0) (pd_var 1) (fun _ _ => rfl)))) pda_nil))))
theorem ok_children_of {P : Program} {w : World} {K : PySem.W.Frag} {mg : Str → Option Value} {base : Heap} {k : Nat}  (M : MF w K mg) : Has P w K mg base (k + 1) "children_of" P_children_of (runF N_children_of (ev_children_of ) 1) :=
  Has.of M.f_children_of S_children_of (fun _ _ _ _ _ _ us hl => match us, hl with | [_], _ => rfl) (b_children_of M )
theorem okK_children_of {P : Program} {w : World} {K : PySem.W.Frag} {mg : Str → Option Value} {base : Heap} {k : Nat}  (M : MF w K mg) : HasK P w K mg base (k + 1) "children_of" "term" (runF N_children_of (ev_children_of ) 1) :=
  HasK.of M.f_children_of S_children_of (fun _ _ _ _ _ _ _ => rfl) (b_children_of M )
/-! is_within -/
abbrev N_is_within : List Str := ["value", "nodes", "deep", "left", "many", "node", "at", "child"]
theorem S_is_within : FnScope N_is_within P_is_within (defScope s_is_within) := ⟨rfl, rfl, rfl, by decide +kernel, rfl, by decide +kernel, by decide +kernel⟩
noncomputable def ev_is_within (m_is_node : List D → Store → Option (D × Store)) (m_children_of : List D → Store → Option (D × Store)) : EvS :=
  (evSeq (evPar 3 4 (evCons (evLst (evCons (evTup (evCons (evVar 0) (evCons (evC (.int 1)) evNil))) evNil)) (evCons (evC (.int 0)) evNil)))
  (evSeq (evWhile (evTCmp (dEqv true) (evVar 3) (evLst evNil))
  (evSeq (evAsg (evMeth "list" dPop (evVar 3) evNil) (egTup 2 (egCons (egName 5) (egCons (egName 6) egNil))))
  (evSeq (evAug 4 dAddI (evC (.int 1)))
  (evSeq (evIfS (evOrT (evTCmp dGt (evVar 4) (evVar 1)) (evOrT (evTCmp dGt (evVar 6) (evVar 2)) (evNotT (evTest (evCall m_is_node (evCons (evVar 5) evNil))))))
  (evRet (evC (.bl false)))
  evNx)
  (evDrop (evMeth "list" dExtend (evVar 3) (evCons (evComp (eiTup (evCall m_children_of (evCons (evVar 5) evNil))) (egC1 7) evYes (evTup (evCons (evVar 7) (evCons (evBin dAdd (evVar 6) (evC (.int 1))) evNil))) [7]) evNil)))))))
  (evRet (evC (.bl true)))))
theorem b_is_within {P : Program} {w : World} {K : PySem.W.Frag} {mg : Str → Option Value} {base : Heap} {k : Nat} {m_is_node : List D → Store → Option (D × Store)} {m_children_of : List D → Store → Option (D × Store)} (M : MF w K mg) (F_is_node : Has P w K mg base k "is_node" P_is_node m_is_node) (F_children_of : Has P w K mg base k "children_of" P_children_of m_children_of) (f : Addr) (cdv : Value) (A : Around) (outer : List PySem.Env) (s : Shared) (H : Hp) (E : XK) (hr : Room k (A.deeper (envOfC "is_within" (defScope s_is_within) s.heap.objs.size f cdv))) :
    PDSs (cxOf CX0 P w K mg base N_is_within "is_within" (defScope s_is_within) f cdv A outer s H E).nox (defBody s_is_within) (ev_is_within m_is_node m_children_of) := by
  have Nd := S_is_within.nd
  exact (pdss_cons (pds_par 3 4 rfl Nd (pda_cons (pd_lst (pda_cons (pd_tup (pda_cons (pd_var 0) (pda_cons pd_int pda_nil))) pda_nil)) (pda_cons pd_int pda_nil)))
      (pdss_cons (pds_while PassesOwn.never (pdt_cmp (op_neM hr.units) dEqv_ok (pd_var 3) (pd_lst pda_nil) (by rfl))
      (pdss_cons (pds_asg (pd_pop (pd_var 3)) (pdg_tup (n := 2) rfl (pdgs_cons (pdg_name 5 Nd) (pdgs_cons (pdg_name 6 Nd) pdgs_nil))))
      (pdss_cons (pds_aug 4 Nd pd_int ip_add dAddI_ok)
      (pdss_cons (pds_if (pdt_w (pdw_or (pdt_cmp op_gt dGt_ok (pd_var 4) (pd_var 1) (by rfl)) (pdw_or (pdt_cmp op_gt dGt_ok (pd_var 6) (pd_var 2) (by rfl)) (pdw_or1 (pdt_not (pdt_val (pd_fn F_is_node hr (by omega) (pda_cons (pd_var 5) pda_nil))))))))
      (pdss_one (pds_ret pd_bl))
      pdss_nil)
      (pdss_one (pds_expr (pd_extend (pd_var 3) (pda_cons (pd_lc rfl Nd (pdi_tup (pd_fn F_children_of hr (by omega) (pda_cons (pd_var 5) pda_nil))) (blkOk_by (own := [("child", 7)]) (by show blkC N_is_within (defScope s_is_within) _ _ = true; decide +kernel)) (cg_name 7) (fun _ _ _ _ _ => (pg_name (i := 7) Nd rfl (Or.inl rfl) (.inr rfl))) (fun _ _ _ _ _ => pdts_nil) (fun _ _ _ _ _ => (pd_tup (pda_cons (pd_var 7) (pda_cons (pd_bin opAdd dAdd_ok (pd_var 6) pd_int) pda_nil))))) pda_nil))))))))
      (pdss_one (pds_ret pd_bl))))
theorem ok_is_within {P : Program} {w : World} {K : PySem.W.Frag} {mg : Str → Option Value} {base : Heap} {k : Nat} {m_is_node : List D → Store → Option (D × Store)} {m_children_of : List D → Store → Option (D × Store)} (M : MF w K mg) (F_is_node : Has P w K mg base k "is_node" P_is_node m_is_node) (F_children_of : Has P w K mg base k "children_of" P_children_of m_children_of) : Has P w K mg base (k + 1) "is_within" P_is_within (runF N_is_within (ev_is_within m_is_node m_children_of) 3) :=
  Has.of M.f_is_within S_is_within (fun _ _ _ _ _ _ us hl => match us, hl with | [_, _, _], _ => rfl) (b_is_within M F_is_node F_children_of)
/-! is_data_of -/
abbrev N_is_data_of : List Str := ["value", "left", "node"]
theorem S_is_data_of : FnScope N_is_data_of P_is_data_of (defScope s_is_data_of) := ⟨rfl, rfl, rfl, by decide +kernel, rfl, by decide +kernel, by decide +kernel⟩
noncomputable def ev_is_data_of (m_is_within : List D → Store → Option (D × Store)) (m_children_of : List D → Store → Option (D × Store)) : EvS :=
  (evSeq (evIfS (evNotT (evTest (evCall m_is_within (evCons (evVar 0) (evCons (evC (.int (2000))) (evCons (evC (.int (60))) evNil))))))
  (evRet (evC (.bl false)))
  evNx)
  (evSeq (evAsg (evLst (evCons (evVar 0) evNil)) (egName 1))
  (evSeq (evWhile (evTCmp (dEqv true) (evVar 1) (evLst evNil))
  (evSeq (evAsg (evMeth "list" dPop (evVar 1) evNil) (egName 2))
  (evSeq (evIfS (evTCmp (dIn true) (evBin dIx (evVar 2) (evC (.int 0))) (evTup (evCons (evC (.str "int")) (evCons (evC (.str "bool")) (evCons (evC (.str "unit")) (evCons (evC (.str "nil")) (evCons (evC (.str "pair")) (evCons (evC (.str "cons")) evNil))))))))
  (evRet (evC (.bl false)))
  evNx)
  (evDrop (evMeth "list" dExtend (evVar 1) (evCons (evCall m_children_of (evCons (evVar 2) evNil)) evNil))))))
  (evRet (evC (.bl true))))))
theorem b_is_data_of {P : Program} {w : World} {K : PySem.W.Frag} {mg : Str → Option Value} {base : Heap} {k : Nat} {m_is_within : List D → Store → Option (D × Store)} {m_children_of : List D → Store → Option (D × Store)} (M : MF w K mg) (F_is_within : Has P w K mg base k "is_within" P_is_within m_is_within) (F_children_of : Has P w K mg base k "children_of" P_children_of m_children_of) (f : Addr) (cdv : Value) (A : Around) (outer : List PySem.Env) (s : Shared) (H : Hp) (E : XK) (hr : Room k (A.deeper (envOfC "is_data_of" (defScope s_is_data_of) s.heap.objs.size f cdv))) :
    PDSs (cxOf CX0 P w K mg base N_is_data_of "is_data_of" (defScope s_is_data_of) f cdv A outer s H E).nox (defBody s_is_data_of) (ev_is_data_of m_is_within m_children_of) := by
  have Nd := S_is_data_of.nd
  exact (pdss_cons (pds_if (pdt_not (pdt_val (pd_fn F_is_within hr (by omega) (pda_cons (pd_var 0) (pda_cons (gC M.c_MOST_DATA_NODES) (pda_cons (gC M.c_MOST_DATA_DEEP) pda_nil))))))
      (pdss_one (pds_ret pd_bl))
      pdss_nil)
      (pdss_cons (pds_set 1 Nd (pd_lst (pda_cons (pd_var 0) pda_nil)))
      (pdss_cons (pds_while PassesOwn.never (pdt_cmp (op_neM hr.units) dEqv_ok (pd_var 1) (pd_lst pda_nil) (by rfl))
      (pdss_cons (pds_set 2 Nd (pd_pop (pd_var 1)))
      (pdss_cons (pds_if (pdt_cmp (opNotIn (u65 hr)) (dIn_ok true) (pd_ix ix_seq dIx_ok (pd_var 2) pd_int (fun _ _ => rfl)) (pd_tup (pda_cons (gC M.c_INT) (pda_cons (gC M.c_BOOL) (pda_cons (gC M.c_UNIT) (pda_cons (gC M.c_NIL) (pda_cons (gC M.c_PAIR) (pda_cons (gC M.c_CONS) pda_nil))))))) (by rfl))
      (pdss_one (pds_ret pd_bl))
      pdss_nil)
      (pdss_one (pds_expr (pd_extend (pd_var 1) (pda_cons (pd_fn F_children_of hr (by omega) (pda_cons (pd_var 2) pda_nil)) pda_nil)))))))
      (pdss_one (pds_ret pd_bl)))))
theorem ok_is_data_of {P : Program} {w : World} {K : PySem.W.Frag} {mg : Str → Option Value} {base : Heap} {k : Nat} {m_is_within : List D → Store → Option (D × Store)} {m_children_of : List D → Store → Option (D × Store)} (M : MF w K mg) (F_is_within : Has P w K mg base k "is_within" P_is_within m_is_within) (F_children_of : Has P w K mg base k "children_of" P_children_of m_children_of) : Has P w K mg base (k + 1) "is_data_of" P_is_data_of (runF N_is_data_of (ev_is_data_of m_is_within m_children_of) 1) :=
  Has.of M.f_is_data_of S_is_data_of (fun _ _ _ _ _ _ us hl => match us, hl with | [_], _ => rfl) (b_is_data_of M F_is_within F_children_of)
theorem okK_is_data_of {P : Program} {w : World} {K : PySem.W.Frag} {mg : Str → Option Value} {base : Heap} {k : Nat} {m_is_within : List D → Store → Option (D × Store)} {m_children_of : List D → Store → Option (D × Store)} (M : MF w K mg) (F_is_within : Has P w K mg base k "is_within" P_is_within m_is_within) (F_children_of : Has P w K mg base k "children_of" P_children_of m_children_of) : HasK P w K mg base (k + 1) "is_data_of" "value" (runF N_is_data_of (ev_is_data_of m_is_within m_children_of) 1) :=
  HasK.of M.f_is_data_of S_is_data_of (fun _ _ _ _ _ _ _ => rfl) (b_is_data_of M F_is_within F_children_of)
/-! is_telling_of -/
abbrev N_is_telling_of : List Str := ["value", "left", "one", "deep", "child"]
theorem S_is_telling_of : FnScope N_is_telling_of P_is_telling_of (defScope s_is_telling_of) := ⟨rfl, rfl, rfl, by decide +kernel, rfl, by decide +kernel, by decide +kernel⟩
noncomputable def ev_is_telling_of (m_is_node : List D → Store → Option (D × Store)) (m_children_of : List D → Store → Option (D × Store)) : EvS :=
  (evSeq (evAsg (evLst (evCons (evTup (evCons (evVar 0) (evCons (evC (.int 1)) evNil))) evNil)) (egName 1))
  (evSeq (evWhile (evTCmp (dEqv true) (evVar 1) (evLst evNil))
  (evSeq (evAsg (evMeth "list" dPop (evVar 1) evNil) (egTup 2 (egCons (egName 2) (egCons (egName 3) egNil))))
  (evSeq (evIfS (evTCmp dGt (evVar 3) (evC (.int (60))))
  (evRet (evC (.bl false)))
  evNx)
  (evIfS (evTCmp (dEqv true) (evVar 2) (evTup (evCons (evC (.str "fun")) evNil)))
  (evSeq (evIfS (evOrT (evNotT (evTest (evCall m_is_node (evCons (evVar 2) evNil)))) (evTCmp (dIn true) (evBin dIx (evVar 2) (evC (.int 0))) (evTup (evCons (evC (.str "int")) (evCons (evC (.str "bool")) (evCons (evC (.str "unit")) (evCons (evC (.str "nil")) (evCons (evC (.str "pair")) (evCons (evC (.str "cons")) evNil)))))))))
  (evRet (evC (.bl false)))
  evNx)
  (evDrop (evMeth "list" dExtend (evVar 1) (evCons (evComp (eiTup (evCall m_children_of (evCons (evVar 2) evNil))) (egC1 4) evYes (evTup (evCons (evVar 4) (evCons (evBin dAdd (evVar 3) (evC (.int 1))) evNil))) [4]) evNil))))
  evNx))))
  (evRet (evC (.bl true)))))
theorem b_is_telling_of {P : Program} {w : World} {K : PySem.W.Frag} {mg : Str → Option Value} {base : Heap} {k : Nat} {m_is_node : List D → Store → Option (D × Store)} {m_children_of : List D → Store → Option (D × Store)} (M : MF w K mg) (F_is_node : Has P w K mg base k "is_node" P_is_node m_is_node) (F_children_of : Has P w K mg base k "children_of" P_children_of m_children_of) (f : Addr) (cdv : Value) (A : Around) (outer : List PySem.Env) (s : Shared) (H : Hp) (E : XK) (hr : Room k (A.deeper (envOfC "is_telling_of" (defScope s_is_telling_of) s.heap.objs.size f cdv))) :
    PDSs (cxOf CX0 P w K mg base N_is_telling_of "is_telling_of" (defScope s_is_telling_of) f cdv A outer s H E).nox (defBody s_is_telling_of) (ev_is_telling_of m_is_node m_children_of) := by
  have Nd := S_is_telling_of.nd
  exact (pdss_cons (pds_set 1 Nd (pd_lst (pda_cons (pd_tup (pda_cons (pd_var 0) (pda_cons pd_int pda_nil))) pda_nil)))
      (pdss_cons (pds_while PassesOwn.never (pdt_cmp (op_neM hr.units) dEqv_ok (pd_var 1) (pd_lst pda_nil) (by rfl))
      (pdss_cons (pds_asg (pd_pop (pd_var 1)) (pdg_tup (n := 2) rfl (pdgs_cons (pdg_name 2 Nd) (pdgs_cons (pdg_name 3 Nd) pdgs_nil))))
      (pdss_cons (pds_if (pdt_cmp op_gt dGt_ok (pd_var 3) (gC M.c_MOST_DEEP) (by rfl))
      (pdss_one (pds_ret pd_bl))
      pdss_nil)
      (pdss_one (pds_if (pdt_cmp (op_neM hr.units) dEqv_ok (pd_var 2) (pd_tup (pda_cons (gC M.c_FUN) pda_nil)) (by rfl))
      (pdss_cons (pds_if (pdt_w (pdw_or (pdt_not (pdt_val (pd_fn F_is_node hr (by omega) (pda_cons (pd_var 2) pda_nil)))) (pdw_or1 (pdt_cmp (opNotIn (u65 hr)) (dIn_ok true) (pd_ix ix_seq dIx_ok (pd_var 2) pd_int (fun _ _ => rfl)) (pd_tup (pda_cons pd_str (pda_cons pd_str (pda_cons pd_str (pda_cons pd_str (pda_cons pd_str (pda_cons pd_str pda_nil))))))) (by rfl)))))
      (pdss_one (pds_ret pd_bl))
      pdss_nil)
      (pdss_one (pds_expr (pd_extend (pd_var 1) (pda_cons (pd_lc rfl Nd (pdi_tup (pd_fn F_children_of hr (by omega) (pda_cons (pd_var 2) pda_nil))) (blkOk_by (own := [("child", 4)]) (by show blkC N_is_telling_of (defScope s_is_telling_of) _ _ = true; decide +kernel)) (cg_name 4) (fun _ _ _ _ _ => (pg_name (i := 4) Nd rfl (Or.inl rfl) (.inr rfl))) (fun _ _ _ _ _ => pdts_nil) (fun _ _ _ _ _ => (pd_tup (pda_cons (pd_var 4) (pda_cons (pd_bin opAdd dAdd_ok (pd_var 3) pd_int) pda_nil))))) pda_nil)))))
      pdss_nil)))))
      (pdss_one (pds_ret pd_bl))))
theorem ok_is_telling_of {P : Program} {w : World} {K : PySem.W.Frag} {mg : Str → Option Value} {base : Heap} {k : Nat} {m_is_node : List D → Store → Option (D × Store)} {m_children_of : List D → Store → Option (D × Store)} (M : MF w K mg) (F_is_node : Has P w K mg base k "is_node" P_is_node m_is_node) (F_children_of : Has P w K mg base k "children_of" P_children_of m_children_of) : Has P w K mg base (k + 1) "is_telling_of" P_is_telling_of (runF N_is_telling_of (ev_is_telling_of m_is_node m_children_of) 1) :=
  Has.of M.f_is_telling_of S_is_telling_of (fun _ _ _ _ _ _ us hl => match us, hl with | [_], _ => rfl) (b_is_telling_of M F_is_node F_children_of)
theorem okK_is_telling_of {P : Program} {w : World} {K : PySem.W.Frag} {mg : Str → Option Value} {base : Heap} {k : Nat} {m_is_node : List D → Store → Option (D × Store)} {m_children_of : List D → Store → Option (D × Store)} (M : MF w K mg) (F_is_node : Has P w K mg base k "is_node" P_is_node m_is_node) (F_children_of : Has P w K mg base k "children_of" P_children_of m_children_of) : HasK P w K mg base (k + 1) "is_telling_of" "value" (runF N_is_telling_of (ev_is_telling_of m_is_node m_children_of) 1) :=
  HasK.of M.f_is_telling_of S_is_telling_of (fun _ _ _ _ _ _ _ => rfl) (b_is_telling_of M F_is_node F_children_of)
/-! is_record_of -/
abbrev N_is_record_of : List Str := ["value"]
theorem S_is_record_of : FnScope N_is_record_of P_is_record_of (defScope s_is_record_of) := ⟨rfl, rfl, rfl, by decide +kernel, rfl, by decide +kernel, by decide +kernel⟩
noncomputable def ev_is_record_of (m_is_row : List D → Store → Option (D × Store)) (m_is_text : List D → Store → Option (D × Store)) (m_is_input_name : List D → Store → Option (D × Store)) (m_is_data_of : List D → Store → Option (D × Store)) (m_is_telling_of : List D → Store → Option (D × Store)) (m_is_number : List D → Store → Option (D × Store)) : EvS :=
  (evSeq (evIfS (evOrT (evNotT (evTest (evCall dIsi (evCons (evVar 0) (evCons (evC (.ty "tuple")) evNil))))) (evOrT (evTCmp (dEqv false) (evVar 0) (evTup evNil)) (evNotT (evTest (evCall dIsi (evCons (evBin dIx (evVar 0) (evC (.int 0))) (evCons (evC (.ty "str")) evNil)))))))
  (evRet (evC (.bl false)))
  evNx)
  (evSeq (evIfS (evTCmp (dIn false) (evBin dIx (evVar 0) (evC (.int 0))) (evTup (evCons (evC (.str "program")) (evCons (evC (.str "inputs")) evNil))))
  (evRet (evAnd (evCall m_is_row (evCons (evVar 0) (evCons (evC (.int 2)) evNil))) (evCall m_is_text (evCons (evBin dIx (evVar 0) (evC (.int 1))) (evCons (evIf (evTCmp (dEqv false) (evBin dIx (evVar 0) (evC (.int 0))) (evC (.str "program"))) (evC (.int 1)) (evC (.int 0))) evNil)))))
  evNx)
  (evSeq (evIfS (evTCmp (dEqv false) (evBin dIx (evVar 0) (evC (.int 0))) (evC (.str "set")))
  (evRet (evAnd (evCall m_is_row (evCons (evVar 0) (evCons (evC (.int 4)) evNil))) (evAnd (evCall m_is_input_name (evCons (evBin dIx (evVar 0) (evC (.int 1))) evNil)) (evAnd (evCall m_is_data_of (evCons (evBin dIx (evVar 0) (evC (.int 2))) evNil)) (evCall m_is_data_of (evCons (evBin dIx (evVar 0) (evC (.int 3))) evNil))))))
  evNx)
  (evSeq (evIfS (evTCmp (dEqv false) (evBin dIx (evVar 0) (evC (.int 0))) (evC (.str "told")))
  (evRet (evAnd (evCall m_is_row (evCons (evVar 0) (evCons (evC (.int 3)) evNil))) (evAnd (evCall m_is_telling_of (evCons (evBin dIx (evVar 0) (evC (.int 1))) evNil)) (evCall m_is_number (evCons (evBin dIx (evVar 0) (evC (.int 2))) evNil)))))
  evNx)
  (evRet (evAnd (evCmp (dEqv false) (evBin dIx (evVar 0) (evC (.int 0))) (evC (.str "kept"))) (evAnd (evCall m_is_row (evCons (evVar 0) (evCons (evC (.int 3)) evNil))) (evAnd (evCall m_is_number (evCons (evBin dIx (evVar 0) (evC (.int 1))) evNil)) (evCall m_is_number (evCons (evBin dIx (evVar 0) (evC (.int 2))) evNil))))))))))
theorem b_is_record_of {P : Program} {w : World} {K : PySem.W.Frag} {mg : Str → Option Value} {base : Heap} {k : Nat} {m_is_row : List D → Store → Option (D × Store)} {m_is_text : List D → Store → Option (D × Store)} {m_is_input_name : List D → Store → Option (D × Store)} {m_is_data_of : List D → Store → Option (D × Store)} {m_is_telling_of : List D → Store → Option (D × Store)} {m_is_number : List D → Store → Option (D × Store)} (M : MF w K mg) (F_is_row : Has P w K mg base k "is_row" P_is_row m_is_row) (F_is_text : Has P w K mg base k "is_text" P_is_text m_is_text) (F_is_input_name : Has P w K mg base k "is_input_name" P_is_input_name m_is_input_name) (F_is_data_of : Has P w K mg base k "is_data_of" P_is_data_of m_is_data_of) (F_is_telling_of : Has P w K mg base k "is_telling_of" P_is_telling_of m_is_telling_of) (F_is_number : Has P w K mg base k "is_number" P_is_number m_is_number) (f : Addr) (cdv : Value) (A : Around) (outer : List PySem.Env) (s : Shared) (H : Hp) (E : XK) (hr : Room k (A.deeper (envOfC "is_record_of" (defScope s_is_record_of) s.heap.objs.size f cdv))) :
    PDSs (cxOf CX0 P w K mg base N_is_record_of "is_record_of" (defScope s_is_record_of) f cdv A outer s H E).nox (defBody s_is_record_of) (ev_is_record_of m_is_row m_is_text m_is_input_name m_is_data_of m_is_telling_of m_is_number) := by
  have Nd := S_is_record_of.nd
  exact (pdss_cons (pds_if (pdt_w (pdw_or (pdt_not (pdt_val (pd_isi M.n_isinstance (pda_cons (pd_var 0) (pda_cons (pd_bty (by rfl) M.n_tuple bt_tuple) pda_nil))))) (pdw_or (pdt_cmp (op_eqM hr.units) dEqv_ok (pd_var 0) (pd_tup pda_nil) (by rfl)) (pdw_or1 (pdt_not (pdt_val (pd_isi M.n_isinstance (pda_cons (pd_ix ix_seq dIx_ok (pd_var 0) pd_int (fun _ _ => rfl)) (pda_cons (pd_bty (by rfl) M.n_str bt_str) pda_nil)))))))))
      (pdss_one (pds_ret pd_bl))
      pdss_nil)
      (pdss_cons (pds_if (pdt_cmp (opIn (u65 hr)) (dIn_ok false) (pd_ix ix_seq dIx_ok (pd_var 0) pd_int (fun _ _ => rfl)) (pd_tup (pda_cons (gC M.c_PROGRAM) (pda_cons (gC M.c_INPUTS) pda_nil))) (by rfl))
      (pdss_one (pds_ret (pd_and (pd_fn F_is_row hr (by omega) (pda_cons (pd_var 0) (pda_cons pd_int pda_nil))) (pd_one (pd_fn F_is_text hr (by omega) (pda_cons (pd_ix ix_seq dIx_ok (pd_var 0) pd_int (fun _ _ => rfl)) (pda_cons (pd_if (pdt_cmp (op_eqM hr.units) dEqv_ok (pd_ix ix_seq dIx_ok (pd_var 0) pd_int (fun _ _ => rfl)) (gC M.c_PROGRAM) (by rfl)) pd_int pd_int) pda_nil)))))))
      pdss_nil)
      (pdss_cons (pds_if (pdt_cmp (op_eqM hr.units) dEqv_ok (pd_ix ix_seq dIx_ok (pd_var 0) pd_int (fun _ _ => rfl)) (gC M.c_SET) (by rfl))
      (pdss_one (pds_ret (pd_and (pd_fn F_is_row hr (by omega) (pda_cons (pd_var 0) (pda_cons pd_int pda_nil))) (pd_and (pd_fn F_is_input_name hr (by omega) (pda_cons (pd_ix ix_seq dIx_ok (pd_var 0) pd_int (fun _ _ => rfl)) pda_nil)) (pd_and (pd_fn F_is_data_of hr (by omega) (pda_cons (pd_ix ix_seq dIx_ok (pd_var 0) pd_int (fun _ _ => rfl)) pda_nil)) (pd_one (pd_fn F_is_data_of hr (by omega) (pda_cons (pd_ix ix_seq dIx_ok (pd_var 0) pd_int (fun _ _ => rfl)) pda_nil))))))))
      pdss_nil)
      (pdss_cons (pds_if (pdt_cmp (op_eqM hr.units) dEqv_ok (pd_ix ix_seq dIx_ok (pd_var 0) pd_int (fun _ _ => rfl)) (gC M.c_TOLD) (by rfl))
      (pdss_one (pds_ret (pd_and (pd_fn F_is_row hr (by omega) (pda_cons (pd_var 0) (pda_cons pd_int pda_nil))) (pd_and (pd_fn F_is_telling_of hr (by omega) (pda_cons (pd_ix ix_seq dIx_ok (pd_var 0) pd_int (fun _ _ => rfl)) pda_nil)) (pd_one (pd_fn F_is_number hr (by omega) (pda_cons (pd_ix ix_seq dIx_ok (pd_var 0) pd_int (fun _ _ => rfl)) pda_nil)))))))
      pdss_nil)
      (pdss_one (pds_ret (pd_and (pd_cmp (op_eqM hr.units) dEqv_ok (pd_ix ix_seq dIx_ok (pd_var 0) pd_int (fun _ _ => rfl)) (gC M.c_KEPT) (by rfl)) (pd_and (pd_fn F_is_row hr (by omega) (pda_cons (pd_var 0) (pda_cons pd_int pda_nil))) (pd_and (pd_fn F_is_number hr (by omega) (pda_cons (pd_ix ix_seq dIx_ok (pd_var 0) pd_int (fun _ _ => rfl)) pda_nil)) (pd_one (pd_fn F_is_number hr (by omega) (pda_cons (pd_ix ix_seq dIx_ok (pd_var 0) pd_int (fun _ _ => rfl)) pda_nil))))))))))))
theorem ok_is_record_of {P : Program} {w : World} {K : PySem.W.Frag} {mg : Str → Option Value} {base : Heap} {k : Nat} {m_is_row : List D → Store → Option (D × Store)} {m_is_text : List D → Store → Option (D × Store)} {m_is_input_name : List D → Store → Option (D × Store)} {m_is_data_of : List D → Store → Option (D × Store)} {m_is_telling_of : List D → Store → Option (D × Store)} {m_is_number : List D → Store → Option (D × Store)} (M : MF w K mg) (F_is_row : Has P w K mg base k "is_row" P_is_row m_is_row) (F_is_text : Has P w K mg base k "is_text" P_is_text m_is_text) (F_is_input_name : Has P w K mg base k "is_input_name" P_is_input_name m_is_input_name) (F_is_data_of : Has P w K mg base k "is_data_of" P_is_data_of m_is_data_of) (F_is_telling_of : Has P w K mg base k "is_telling_of" P_is_telling_of m_is_telling_of) (F_is_number : Has P w K mg base k "is_number" P_is_number m_is_number) : Has P w K mg base (k + 1) "is_record_of" P_is_record_of (runF N_is_record_of (ev_is_record_of m_is_row m_is_text m_is_input_name m_is_data_of m_is_telling_of m_is_number) 1) :=
  Has.of M.f_is_record_of S_is_record_of (fun _ _ _ _ _ _ us hl => match us, hl with | [_], _ => rfl) (b_is_record_of M F_is_row F_is_text F_is_input_name F_is_data_of F_is_telling_of F_is_number)
theorem okK_is_record_of {P : Program} {w : World} {K : PySem.W.Frag} {mg : Str → Option Value} {base : Heap} {k : Nat} {m_is_row : List D → Store → Option (D × Store)} {m_is_text : List D → Store → Option (D × Store)} {m_is_input_name : List D → Store → Option (D × Store)} {m_is_data_of : List D → Store → Option (D × Store)} {m_is_telling_of : List D → Store → Option (D × Store)} {m_is_number : List D → Store → Option (D × Store)} (M : MF w K mg) (F_is_row : Has P w K mg base k "is_row" P_is_row m_is_row) (F_is_text : Has P w K mg base k "is_text" P_is_text m_is_text) (F_is_input_name : Has P w K mg base k "is_input_name" P_is_input_name m_is_input_name) (F_is_data_of : Has P w K mg base k "is_data_of" P_is_data_of m_is_data_of) (F_is_telling_of : Has P w K mg base k "is_telling_of" P_is_telling_of m_is_telling_of) (F_is_number : Has P w K mg base k "is_number" P_is_number m_is_number) : HasK P w K mg base (k + 1) "is_record_of" "value" (runF N_is_record_of (ev_is_record_of m_is_row m_is_text m_is_input_name m_is_data_of m_is_telling_of m_is_number) 1) :=
  HasK.of M.f_is_record_of S_is_record_of (fun _ _ _ _ _ _ _ => rfl) (b_is_record_of M F_is_row F_is_text F_is_input_name F_is_data_of F_is_telling_of F_is_number)
/-! word_of -/
abbrev N_word_of : List Str := ["telling", "sign"]
theorem S_word_of : FnScope N_word_of P_word_of (defScope s_word_of) := ⟨rfl, rfl, rfl, by decide +kernel, rfl, by decide +kernel, by decide +kernel⟩
noncomputable def ev_word_of (m_word_of : List D → Store → Option (D × Store)) : EvS :=
  (evSeq (evIfS (evTCmp (dEqv false) (evBin dIx (evVar 0) (evC (.int 0))) (evC (.str "int")))
  (evRet (evBin dAdd (evBin dAdd (evC (.str "i")) (evCall dStr (evCons (evBin dIx (evVar 0) (evC (.int 1))) evNil))) (evC (.str ";"))))
  evNx)
  (evSeq (evFor (eiKeys tab_PLAIN) (egName 1)
  (evIfS (evTCmp (dEqv false) (evKIx tab_PLAIN (evVar 1)) (evVar 0))
  (evRet (evVar 1))
  evNx))
  (evSeq (evAsg (evIf (evTCmp (dEqv false) (evBin dIx (evVar 0) (evC (.int 0))) (evC (.str "pair"))) (evC (.str "p")) (evC (.str "c"))) (egName 1))
  (evRet (evBin dAdd (evBin dAdd (evVar 1) (evCall m_word_of (evCons (evBin dIx (evVar 0) (evC (.int 1))) evNil))) (evCall m_word_of (evCons (evBin dIx (evVar 0) (evC (.int 2))) evNil)))))))
theorem b_word_of {P : Program} {w : World} {K : PySem.W.Frag} {mg : Str → Option Value} {base : Heap} {k : Nat} {m_word_of : List D → Store → Option (D × Store)} (M : MF w K mg) (F_word_of : Has P w K mg base k "word_of" P_word_of m_word_of) (f : Addr) (cdv : Value) (A : Around) (outer : List PySem.Env) (s : Shared) (H : Hp) (E : XK) (hr : Room k (A.deeper (envOfC "word_of" (defScope s_word_of) s.heap.objs.size f cdv))) :
    PDSs (cxOf CX0 P w K mg base N_word_of "word_of" (defScope s_word_of) f cdv A outer s H E).nox (defBody s_word_of) (ev_word_of m_word_of) := by
  have Nd := S_word_of.nd
  exact (pdss_cons (pds_if (pdt_cmp (op_eqM hr.units) dEqv_ok (pd_ix ix_seq dIx_ok (pd_var 0) pd_int (fun _ _ => rfl)) pd_str (by rfl))
      (pdss_one (pds_ret (pd_bin opAdd dAdd_ok (pd_bin opAdd dAdd_ok pd_str (pd_str_ M.n_str (pda_cons (pd_ix ix_seq dIx_ok (pd_var 0) pd_int (fun _ _ => rfl)) pda_nil))) pd_str)))
      pdss_nil)
      (pdss_cons (pds_for PassesOwn.never rfl (iK M.t_PLAIN) (pdg_name 1 Nd)
      (pdss_one (pds_if (pdt_cmp (op_eqM hr.units) dEqv_ok (xK M.t_PLAIN (pd_var 1)) (pd_var 0) (by rfl))
      (pdss_one (pds_ret (pd_var 1)))
      pdss_nil)))
      (pdss_cons (pds_set 1 Nd (pd_if (pdt_cmp (op_eqM hr.units) dEqv_ok (pd_ix ix_seq dIx_ok (pd_var 0) pd_int (fun _ _ => rfl)) pd_str (by rfl)) pd_str pd_str))
      (pdss_one (pds_ret (pd_bin opAdd dAdd_ok (pd_bin opAdd dAdd_ok (pd_var 1) (pd_fn F_word_of hr (by omega) (pda_cons (pd_ix ix_seq dIx_ok (pd_var 0) pd_int (fun _ _ => rfl)) pda_nil))) (pd_fn F_word_of hr (by omega) (pda_cons (pd_ix ix_seq dIx_ok (pd_var 0) pd_int (fun _ _ => rfl)) pda_nil))))))))
theorem ok_word_of {P : Program} {w : World} {K : PySem.W.Frag} {mg : Str → Option Value} {base : Heap} {k : Nat} {m_word_of : List D → Store → Option (D × Store)} (M : MF w K mg) (F_word_of : Has P w K mg base k "word_of" P_word_of m_word_of) : Has P w K mg base (k + 1) "word_of" P_word_of (runF N_word_of (ev_word_of m_word_of) 1) :=
  Has.of M.f_word_of S_word_of (fun _ _ _ _ _ _ us hl => match us, hl with | [_], _ => rfl) (b_word_of M F_word_of)
theorem okK_word_of {P : Program} {w : World} {K : PySem.W.Frag} {mg : Str → Option Value} {base : Heap} {k : Nat} {m_word_of : List D → Store → Option (D × Store)} (M : MF w K mg) (F_word_of : Has P w K mg base k "word_of" P_word_of m_word_of) : HasK P w K mg base (k + 1) "word_of" "telling" (runF N_word_of (ev_word_of m_word_of) 1) :=
  HasK.of M.f_word_of S_word_of (fun _ _ _ _ _ _ _ => rfl) (b_word_of M F_word_of)
/-! parts_of -/
abbrev N_parts_of : List Str := ["record"]
theorem S_parts_of : FnScope N_parts_of P_parts_of (defScope s_parts_of) := ⟨rfl, rfl, rfl, by decide +kernel, rfl, by decide +kernel, by decide +kernel⟩
noncomputable def ev_parts_of (m_word_of : List D → Store → Option (D × Store)) : EvS :=
  (evSeq (evIfS (evTCmp (dIn false) (evBin dIx (evVar 0) (evC (.int 0))) (evTup (evCons (evC (.str "program")) (evCons (evC (.str "inputs")) evNil))))
  (evRet (evLst (evCons (evBin dIx (evVar 0) (evC (.int 0))) (evCons (evRepl "\n" "\\" (evBin dIx (evVar 0) (evC (.int 1)))) evNil))))
  evNx)
  (evSeq (evIfS (evTCmp (dEqv false) (evBin dIx (evVar 0) (evC (.int 0))) (evC (.str "set")))
  (evRet (evLst (evCons (evC (.str "set")) (evCons (evBin dIx (evVar 0) (evC (.int 1))) (evCons (evCall m_word_of (evCons (evBin dIx (evVar 0) (evC (.int 2))) evNil)) (evCons (evCall m_word_of (evCons (evBin dIx (evVar 0) (evC (.int 3))) evNil)) evNil))))))
  evNx)
  (evSeq (evIfS (evTCmp (dEqv false) (evBin dIx (evVar 0) (evC (.int 0))) (evC (.str "told")))
  (evRet (evLst (evCons (evC (.str "told")) (evCons (evCall m_word_of (evCons (evBin dIx (evVar 0) (evC (.int 1))) evNil)) (evCons (evCall dStr (evCons (evBin dIx (evVar 0) (evC (.int 2))) evNil)) evNil)))))
  evNx)
  (evRet (evLst (evCons (evC (.str "kept")) (evCons (evCall dStr (evCons (evBin dIx (evVar 0) (evC (.int 1))) evNil)) (evCons (evCall dStr (evCons (evBin dIx (evVar 0) (evC (.int 2))) evNil)) evNil))))))))
theorem b_parts_of {P : Program} {w : World} {K : PySem.W.Frag} {mg : Str → Option Value} {base : Heap} {k : Nat} {m_word_of : List D → Store → Option (D × Store)} (M : MF w K mg) (F_word_of : Has P w K mg base k "word_of" P_word_of m_word_of) (f : Addr) (cdv : Value) (A : Around) (outer : List PySem.Env) (s : Shared) (H : Hp) (E : XK) (hr : Room k (A.deeper (envOfC "parts_of" (defScope s_parts_of) s.heap.objs.size f cdv))) :
    PDSs (cxOf CX0 P w K mg base N_parts_of "parts_of" (defScope s_parts_of) f cdv A outer s H E).nox (defBody s_parts_of) (ev_parts_of m_word_of) := by
  have Nd := S_parts_of.nd
  exact (pdss_cons (pds_if (pdt_cmp (opIn (u65 hr)) (dIn_ok false) (pd_ix ix_seq dIx_ok (pd_var 0) pd_int (fun _ _ => rfl)) (pd_tup (pda_cons (gC M.c_PROGRAM) (pda_cons (gC M.c_INPUTS) pda_nil))) (by rfl))
      (pdss_one (pds_ret (pd_lst (pda_cons (pd_ix ix_seq dIx_ok (pd_var 0) pd_int (fun _ _ => rfl)) (pda_cons (rP M.r_FEED_MARK (pd_ix ix_seq dIx_ok (pd_var 0) pd_int (fun _ _ => rfl))) pda_nil)))))
      pdss_nil)
      (pdss_cons (pds_if (pdt_cmp (op_eqM hr.units) dEqv_ok (pd_ix ix_seq dIx_ok (pd_var 0) pd_int (fun _ _ => rfl)) (gC M.c_SET) (by rfl))
      (pdss_one (pds_ret (pd_lst (pda_cons (gC M.c_SET) (pda_cons (pd_ix ix_seq dIx_ok (pd_var 0) pd_int (fun _ _ => rfl)) (pda_cons (pd_fn F_word_of hr (by omega) (pda_cons (pd_ix ix_seq dIx_ok (pd_var 0) pd_int (fun _ _ => rfl)) pda_nil)) (pda_cons (pd_fn F_word_of hr (by omega) (pda_cons (pd_ix ix_seq dIx_ok (pd_var 0) pd_int (fun _ _ => rfl)) pda_nil)) pda_nil)))))))
      pdss_nil)
      (pdss_cons (pds_if (pdt_cmp (op_eqM hr.units) dEqv_ok (pd_ix ix_seq dIx_ok (pd_var 0) pd_int (fun _ _ => rfl)) (gC M.c_TOLD) (by rfl))
      (pdss_one (pds_ret (pd_lst (pda_cons (gC M.c_TOLD) (pda_cons (pd_fn F_word_of hr (by omega) (pda_cons (pd_ix ix_seq dIx_ok (pd_var 0) pd_int (fun _ _ => rfl)) pda_nil)) (pda_cons (pd_str_ M.n_str (pda_cons (pd_ix ix_seq dIx_ok (pd_var 0) pd_int (fun _ _ => rfl)) pda_nil)) pda_nil))))))
      pdss_nil)
      (pdss_one (pds_ret (pd_lst (pda_cons (gC M.c_KEPT) (pda_cons (pd_str_ M.n_str (pda_cons (pd_ix ix_seq dIx_ok (pd_var 0) pd_int (fun _ _ => rfl)) pda_nil)) (pda_cons (pd_str_ M.n_str (pda_cons (pd_ix ix_seq dIx_ok (pd_var 0) pd_int (fun _ _ => rfl)) pda_nil)) pda_nil)))))))))
theorem ok_parts_of {P : Program} {w : World} {K : PySem.W.Frag} {mg : Str → Option Value} {base : Heap} {k : Nat} {m_word_of : List D → Store → Option (D × Store)} (M : MF w K mg) (F_word_of : Has P w K mg base k "word_of" P_word_of m_word_of) : Has P w K mg base (k + 1) "parts_of" P_parts_of (runF N_parts_of (ev_parts_of m_word_of) 1) :=
  Has.of M.f_parts_of S_parts_of (fun _ _ _ _ _ _ us hl => match us, hl with | [_], _ => rfl) (b_parts_of M F_word_of)
theorem okK_parts_of {P : Program} {w : World} {K : PySem.W.Frag} {mg : Str → Option Value} {base : Heap} {k : Nat} {m_word_of : List D → Store → Option (D × Store)} (M : MF w K mg) (F_word_of : Has P w K mg base k "word_of" P_word_of m_word_of) : HasK P w K mg base (k + 1) "parts_of" "record" (runF N_parts_of (ev_parts_of m_word_of) 1) :=
  HasK.of M.f_parts_of S_parts_of (fun _ _ _ _ _ _ _ => rfl) (b_parts_of M F_word_of)
/-! sum_of_signs -/
abbrev N_sum_of_signs : List Str := ["text", "one", "other", "sign"]
theorem S_sum_of_signs : FnScope N_sum_of_signs P_sum_of_signs (defScope s_sum_of_signs) := ⟨rfl, rfl, rfl, by decide +kernel, rfl, by decide +kernel, by decide +kernel⟩
noncomputable def ev_sum_of_signs  : EvS :=
  (evSeq (evAsg (evTup (evCons (evC (.int 1)) (evCons (evC (.int 0)) evNil))) (egTup 2 (egCons (egName 1) (egCons (egName 2) egNil))))
  (evSeq (evFor (eiStr (evVar 0)) (egName 3)
  (evSeq (evAsg (evBin dMod (evBin dAdd (evVar 1) (evCall dOrd (evCons (evVar 3) evNil))) (evC (.int (9973)))) (egName 1))
  (evAsg (evBin dMod (evBin dAdd (evVar 2) (evVar 1)) (evC (.int (9973)))) (egName 2))))
  (evRet (evBin dAdd (evBin dMul (evVar 2) (evC (.int (9973)))) (evVar 1)))))
theorem b_sum_of_signs {P : Program} {w : World} {K : PySem.W.Frag} {mg : Str → Option Value} {base : Heap} {k : Nat}  (M : MF w K mg) (f : Addr) (cdv : Value) (A : Around) (outer : List PySem.Env) (s : Shared) (H : Hp) (E : XK) (hr : Room k (A.deeper (envOfC "sum_of_signs" (defScope s_sum_of_signs) s.heap.objs.size f cdv))) :
    PDSs (cxOf CX0 P w K mg base N_sum_of_signs "sum_of_signs" (defScope s_sum_of_signs) f cdv A outer s H E).nox (defBody s_sum_of_signs) (ev_sum_of_signs ) := by
  have Nd := S_sum_of_signs.nd
  exact (pdss_cons (pds_asg (pd_tup (pda_cons pd_int (pda_cons pd_int pda_nil))) (pdg_tup (n := 2) rfl (pdgs_cons (pdg_name 1 Nd) (pdgs_cons (pdg_name 2 Nd) pdgs_nil))))
      (pdss_cons (pds_for PassesOwn.never rfl (pdi_str (pd_var 0)) (pdg_name 3 Nd)
      (pdss_cons (pds_set 1 Nd (pd_bin op_mod dMod_ok (pd_bin opAdd dAdd_ok (pd_var 1) (pd_ord M.n_ord (pda_cons (pd_var 3) pda_nil))) (gC M.c_UNDER)))
      (pdss_one (pds_set 2 Nd (pd_bin op_mod dMod_ok (pd_bin opAdd dAdd_ok (pd_var 2) (pd_var 1)) (gC M.c_UNDER))))))
      (pdss_one (pds_ret (pd_bin opAdd dAdd_ok (pd_bin op_mul dMul_ok (pd_var 2) (gC M.c_UNDER)) (pd_var 1))))))
theorem ok_sum_of_signs {P : Program} {w : World} {K : PySem.W.Frag} {mg : Str → Option Value} {base : Heap} {k : Nat}  (M : MF w K mg) : Has P w K mg base (k + 1) "sum_of_signs" P_sum_of_signs (runF N_sum_of_signs (ev_sum_of_signs ) 1) :=
  Has.of M.f_sum_of_signs S_sum_of_signs (fun _ _ _ _ _ _ us hl => match us, hl with | [_], _ => rfl) (b_sum_of_signs M )
theorem okK_sum_of_signs {P : Program} {w : World} {K : PySem.W.Frag} {mg : Str → Option Value} {base : Heap} {k : Nat}  (M : MF w K mg) : HasK P w K mg base (k + 1) "sum_of_signs" "text" (runF N_sum_of_signs (ev_sum_of_signs ) 1) :=
  HasK.of M.f_sum_of_signs S_sum_of_signs (fun _ _ _ _ _ _ _ => rfl) (b_sum_of_signs M )
/-! line_of -/
abbrev N_line_of : List Str := ["number", "record", "head"]
theorem S_line_of : FnScope N_line_of P_line_of (defScope s_line_of) := ⟨rfl, rfl, rfl, by decide +kernel, rfl, by decide +kernel, by decide +kernel⟩
noncomputable def ev_line_of (m_parts_of : List D → Store → Option (D × Store)) (m_sum_of_signs : List D → Store → Option (D × Store)) : EvS :=
  (evSeq (evAsg (evMeth "str" dJoin (evC (.str " ")) (evCons (evBin dAdd (evLst (evCons (evCall dStr (evCons (evVar 0) evNil)) evNil)) (evCall m_parts_of (evCons (evVar 1) evNil))) evNil)) (egName 2))
  (evRet (evBin dAdd (evBin dAdd (evBin dAdd (evVar 2) (evC (.str " "))) (evCall dStr (evCons (evCall m_sum_of_signs (evCons (evVar 2) evNil)) evNil))) (evC (.str "\n")))))
theorem b_line_of {P : Program} {w : World} {K : PySem.W.Frag} {mg : Str → Option Value} {base : Heap} {k : Nat} {m_parts_of : List D → Store → Option (D × Store)} {m_sum_of_signs : List D → Store → Option (D × Store)} (M : MF w K mg) (F_parts_of : Has P w K mg base k "parts_of" P_parts_of m_parts_of) (F_sum_of_signs : Has P w K mg base k "sum_of_signs" P_sum_of_signs m_sum_of_signs) (f : Addr) (cdv : Value) (A : Around) (outer : List PySem.Env) (s : Shared) (H : Hp) (E : XK) (hr : Room k (A.deeper (envOfC "line_of" (defScope s_line_of) s.heap.objs.size f cdv))) :
    PDSs (cxOf CX0 P w K mg base N_line_of "line_of" (defScope s_line_of) f cdv A outer s H E).nox (defBody s_line_of) (ev_line_of m_parts_of m_sum_of_signs) := by
  have Nd := S_line_of.nd
  exact (pdss_cons (pds_set 2 Nd (pd_join pd_str (pda_cons (pd_bin opAdd dAdd_ok (pd_lst (pda_cons (pd_str_ M.n_str (pda_cons (pd_var 0) pda_nil)) pda_nil)) (pd_fn F_parts_of hr (by omega) (pda_cons (pd_var 1) pda_nil))) pda_nil)))
      (pdss_one (pds_ret (pd_bin opAdd dAdd_ok (pd_bin opAdd dAdd_ok (pd_bin opAdd dAdd_ok (pd_var 2) pd_str) (pd_str_ M.n_str (pda_cons (pd_fn F_sum_of_signs hr (by omega) (pda_cons (pd_var 2) pda_nil)) pda_nil))) (gC M.c_FEED)))))
theorem ok_line_of {P : Program} {w : World} {K : PySem.W.Frag} {mg : Str → Option Value} {base : Heap} {k : Nat} {m_parts_of : List D → Store → Option (D × Store)} {m_sum_of_signs : List D → Store → Option (D × Store)} (M : MF w K mg) (F_parts_of : Has P w K mg base k "parts_of" P_parts_of m_parts_of) (F_sum_of_signs : Has P w K mg base k "sum_of_signs" P_sum_of_signs m_sum_of_signs) : Has P w K mg base (k + 1) "line_of" P_line_of (runF N_line_of (ev_line_of m_parts_of m_sum_of_signs) 2) :=
  Has.of M.f_line_of S_line_of (fun _ _ _ _ _ _ us hl => match us, hl with | [_, _], _ => rfl) (b_line_of M F_parts_of F_sum_of_signs)
/-! record_line -/
abbrev N_record_line : List Str := ["number", "record"]
theorem S_record_line : FnScope N_record_line P_record_line (defScope s_record_line) := ⟨rfl, rfl, rfl, by decide +kernel, rfl, by decide +kernel, by decide +kernel⟩
noncomputable def ev_record_line (m_is_number : List D → Store → Option (D × Store)) (m_is_record_of : List D → Store → Option (D × Store)) (m_line_of : List D → Store → Option (D × Store)) : EvS :=
  (evSeq (evIfS (evNotT (evTest (evCall m_is_number (evCons (evVar 0) evNil))))
  evNever
  evNx)
  (evSeq (evIfS (evNotT (evTest (evCall m_is_record_of (evCons (evVar 1) evNil))))
  evNever
  evNx)
  (evRet (evCall m_line_of (evCons (evVar 0) (evCons (evVar 1) evNil))))))
theorem b_record_line {P : Program} {w : World} {K : PySem.W.Frag} {mg : Str → Option Value} {base : Heap} {k : Nat} {m_is_number : List D → Store → Option (D × Store)} {m_is_record_of : List D → Store → Option (D × Store)} {m_line_of : List D → Store → Option (D × Store)} (M : MF w K mg) (F_is_number : Has P w K mg base k "is_number" P_is_number m_is_number) (F_is_record_of : Has P w K mg base k "is_record_of" P_is_record_of m_is_record_of) (F_line_of : Has P w K mg base k "line_of" P_line_of m_line_of) (f : Addr) (cdv : Value) (A : Around) (outer : List PySem.Env) (s : Shared) (H : Hp) (E : XK) (hr : Room k (A.deeper (envOfC "record_line" (defScope s_record_line) s.heap.objs.size f cdv))) :
    PDSs (cxOf CX0 P w K mg base N_record_line "record_line" (defScope s_record_line) f cdv A outer s H E).nox (defBody s_record_line) (ev_record_line m_is_number m_is_record_of m_line_of) := by
  have Nd := S_record_line.nd
  exact (pdss_cons (pds_if (pdt_not (pdt_val (pd_fn F_is_number hr (by omega) (pda_cons (pd_var 0) pda_nil))))
      (pdss_one pds_never)
      pdss_nil)
      (pdss_cons (pds_if (pdt_not (pdt_val (pd_fn F_is_record_of hr (by omega) (pda_cons (pd_var 1) pda_nil))))
      (pdss_one pds_never)
      pdss_nil)
      (pdss_one (pds_ret (pd_fn F_line_of hr (by omega) (pda_cons (pd_var 0) (pda_cons (pd_var 1) pda_nil)))))))
theorem ok_record_line {P : Program} {w : World} {K : PySem.W.Frag} {mg : Str → Option Value} {base : Heap} {k : Nat} {m_is_number : List D → Store → Option (D × Store)} {m_is_record_of : List D → Store → Option (D × Store)} {m_line_of : List D → Store → Option (D × Store)} (M : MF w K mg) (F_is_number : Has P w K mg base k "is_number" P_is_number m_is_number) (F_is_record_of : Has P w K mg base k "is_record_of" P_is_record_of m_is_record_of) (F_line_of : Has P w K mg base k "line_of" P_line_of m_line_of) : Has P w K mg base (k + 1) "record_line" P_record_line (runF N_record_line (ev_record_line m_is_number m_is_record_of m_line_of) 2) :=
  Has.of M.f_record_line S_record_line (fun _ _ _ _ _ _ us hl => match us, hl with | [_, _], _ => rfl) (b_record_line M F_is_number F_is_record_of F_line_of)
/-! can_follow -/
abbrev N_can_follow : List Str := ["word"]
theorem S_can_follow : FnScope N_can_follow P_can_follow (defScope s_can_follow) := ⟨rfl, rfl, rfl, by decide +kernel, rfl, by decide +kernel, by decide +kernel⟩
noncomputable def ev_can_follow  : EvS :=
  (evSeq (evIfS (evTCmp (dIsN false) (evVar 0) (evC .non))
  (evRet (evTup (evCons (evC (.str "program")) evNil)))
  evNx)
  (evRet (evDGet2 (evDisp (((evC (.str "inputs")), (evTup (evCons (evC (.str "told")) evNil))) :: (((evC (.str "set")), (evTup (evCons (evC (.str "set")) (evCons (evC (.str "told")) evNil)))) :: []))) (evVar 0) (evTup (evCons (evC (.str "set")) (evCons (evC (.str "program")) (evCons (evC (.str "kept")) evNil)))))))
theorem b_can_follow {P : Program} {w : World} {K : PySem.W.Frag} {mg : Str → Option Value} {base : Heap} {k : Nat}  (M : MF w K mg) (f : Addr) (cdv : Value) (A : Around) (outer : List PySem.Env) (s : Shared) (H : Hp) (E : XK) (hr : Room k (A.deeper (envOfC "can_follow" (defScope s_can_follow) s.heap.objs.size f cdv))) :
    PDSs (cxOf CX0 P w K mg base N_can_follow "can_follow" (defScope s_can_follow) f cdv A outer s H E).nox (defBody s_can_follow) (ev_can_follow ) := by
  have Nd := S_can_follow.nd
  exact (pdss_cons (pds_if (pdt_cmp opIsN (dIsN_ok false) (pd_var 0) pd_non (by rfl))
      (pdss_one (pds_ret (pd_tup (pda_cons (gC M.c_PROGRAM) pda_nil))))
      pdss_nil)
      (pdss_one (pds_ret (pd_dget2 (u1 hr) (pd_disp (trs := (((evC (.str "inputs")), (evTup (evCons (evC (.str "told")) evNil))) :: (((evC (.str "set")), (evTup (evCons (evC (.str "set")) (evCons (evC (.str "told")) evNil)))) :: []))) (pps_cons (gC M.c_INPUTS) (pd_tup (pda_cons (gC M.c_TOLD) pda_nil)) (pps_cons (gC M.c_SET) (pd_tup (pda_cons (gC M.c_SET) (pda_cons (gC M.c_TOLD) pda_nil))) pps_nil))) (pd_var 0) (pd_tup (pda_cons (gC M.c_SET) (pda_cons (gC M.c_PROGRAM) (pda_cons (gC M.c_KEPT) pda_nil)))) ⟨rfl, rfl, rfl, rfl⟩))))
theorem ok_can_follow {P : Program} {w : World} {K : PySem.W.Frag} {mg : Str → Option Value} {base : Heap} {k : Nat}  (M : MF w K mg) : Has P w K mg base (k + 1) "can_follow" P_can_follow (runF N_can_follow (ev_can_follow ) 1) :=
  Has.of M.f_can_follow S_can_follow (fun _ _ _ _ _ _ us hl => match us, hl with | [_], _ => rfl) (b_can_follow M )
theorem okK_can_follow {P : Program} {w : World} {K : PySem.W.Frag} {mg : Str → Option Value} {base : Heap} {k : Nat}  (M : MF w K mg) : HasK P w K mg base (k + 1) "can_follow" "word" (runF N_can_follow (ev_can_follow ) 1) :=
  HasK.of M.f_can_follow S_can_follow (fun _ _ _ _ _ _ _ => rfl) (b_can_follow M )
/-! follows -/
abbrev N_follows : List Str := ["records", "record", "last"]
theorem S_follows : FnScope N_follows P_follows (defScope s_follows) := ⟨rfl, rfl, rfl, by decide +kernel, rfl, by decide +kernel, by decide +kernel⟩
noncomputable def ev_follows (m_can_follow : List D → Store → Option (D × Store)) : EvS :=
  (evSeq (evIfS (evTCmp (dEqv false) (evCall dLen (evCons (evVar 0) evNil)) (evC (.int 1)))
  (evRet (evCmp (dEqv false) (evBin dIx (evVar 1) (evC (.int 0))) (evC (.str "inputs"))))
  evNx)
  (evSeq (evAsg (evIf (evTCmp (dEqv true) (evVar 0) (evLst evNil)) (evBin dIx (evBin dIx (evVar 0) (evUn dNeg (evC (.int 1)))) (evC (.int 0))) (evC .non)) (egName 2))
  (evRet (evIf (evTCmp (dEqv false) (evVar 2) (evC (.str "program"))) (evCmp (dEqv false) (evBin dIx (evVar 1) (evC (.int 0))) (evC (.str "told"))) (evCmp (dIn false) (evBin dIx (evVar 1) (evC (.int 0))) (evCall m_can_follow (evCons (evVar 2) evNil)))))))
theorem b_follows {P : Program} {w : World} {K : PySem.W.Frag} {mg : Str → Option Value} {base : Heap} {k : Nat} {m_can_follow : List D → Store → Option (D × Store)} (M : MF w K mg) (F_can_follow : Has P w K mg base k "can_follow" P_can_follow m_can_follow) (f : Addr) (cdv : Value) (A : Around) (outer : List PySem.Env) (s : Shared) (H : Hp) (E : XK) (hr : Room k (A.deeper (envOfC "follows" (defScope s_follows) s.heap.objs.size f cdv))) :
    PDSs (cxOf CX0 P w K mg base N_follows "follows" (defScope s_follows) f cdv A outer s H E).nox (defBody s_follows) (ev_follows m_can_follow) := by
  have Nd := S_follows.nd
  exact (pdss_cons (pds_if (pdt_cmp (op_eqM hr.units) dEqv_ok (pd_len M.n_len (pda_cons (pd_var 0) pda_nil)) pd_int (by rfl))
      (pdss_one (pds_ret (pd_cmp (op_eqM hr.units) dEqv_ok (pd_ix ix_seq dIx_ok (pd_var 1) pd_int (fun _ _ => rfl)) (gC M.c_INPUTS) (by rfl))))
      pdss_nil)
      (pdss_cons (pds_set 2 Nd (pd_if (pdt_cmp (op_neM hr.units) dEqv_ok (pd_var 0) (pd_lst pda_nil) (by rfl)) (pd_ix ix_seq dIx_ok (pd_ix ix_seq dIx_ok (pd_var 0) (pd_un un_neg dNeg_ok pd_int) (fun _ _ => rfl)) pd_int (fun _ _ => rfl)) pd_non))
      (pdss_one (pds_ret (pd_if (pdt_cmp (op_eqM hr.units) dEqv_ok (pd_var 2) (gC M.c_PROGRAM) (by rfl)) (pd_cmp (op_eqM hr.units) dEqv_ok (pd_ix ix_seq dIx_ok (pd_var 1) pd_int (fun _ _ => rfl)) (gC M.c_TOLD) (by rfl)) (pd_cmp (opIn (u65 hr)) (dIn_ok false) (pd_ix ix_seq dIx_ok (pd_var 1) pd_int (fun _ _ => rfl)) (pd_fn F_can_follow hr (by omega) (pda_cons (pd_var 2) pda_nil)) (by rfl)))))))
theorem ok_follows {P : Program} {w : World} {K : PySem.W.Frag} {mg : Str → Option Value} {base : Heap} {k : Nat} {m_can_follow : List D → Store → Option (D × Store)} (M : MF w K mg) (F_can_follow : Has P w K mg base k "can_follow" P_can_follow m_can_follow) : Has P w K mg base (k + 1) "follows" P_follows (runF N_follows (ev_follows m_can_follow) 2) :=
  Has.of M.f_follows S_follows (fun _ _ _ _ _ _ us hl => match us, hl with | [_, _], _ => rfl) (b_follows M F_can_follow)
/-! are_records_of -/
abbrev N_are_records_of : List Str := ["value", "one", "at"]
theorem S_are_records_of : FnScope N_are_records_of P_are_records_of (defScope s_are_records_of) := ⟨rfl, rfl, rfl, by decide +kernel, rfl, by decide +kernel, by decide +kernel⟩
noncomputable def ev_are_records_of (m_is_record_of : List D → Store → Option (D × Store)) (m_follows : List D → Store → Option (D × Store)) : EvS :=
  (evSeq (evIfS (evOrT (evNotT (evTest (evIsi2 "list" "tuple" (evVar 0)))) (evNotT (evTest (evCall dAll (evCons (evComp (eiSeq (evVar 0)) (egC1 1) evYes (evCall m_is_record_of (evCons (evVar 1) evNil)) [1]) evNil)))))
  (evRet (evC (.bl false)))
  evNx)
  (evRet (evCall dAll (evCons (evComp (eiEnum (evCons (evVar 0) evNil)) (egC2 2 1) evYes (evCall m_follows (evCons (evCall dList (evCons (evSl dSl (evVar 0) evONone (evOSome (evVar 2))) evNil)) (evCons (evVar 1) evNil))) [2, 1]) evNil))))
theorem b_are_records_of {P : Program} {w : World} {K : PySem.W.Frag} {mg : Str → Option Value} {base : Heap} {k : Nat} {m_is_record_of : List D → Store → Option (D × Store)} {m_follows : List D → Store → Option (D × Store)} (M : MF w K mg) (F_is_record_of : Has P w K mg base k "is_record_of" P_is_record_of m_is_record_of) (F_follows : Has P w K mg base k "follows" P_follows m_follows) (f : Addr) (cdv : Value) (A : Around) (outer : List PySem.Env) (s : Shared) (H : Hp) (E : XK) (hr : Room k (A.deeper (envOfC "are_records_of" (defScope s_are_records_of) s.heap.objs.size f cdv))) :
    PDSs (cxOf CX0 P w K mg base N_are_records_of "are_records_of" (defScope s_are_records_of) f cdv A outer s H E).nox (defBody s_are_records_of) (ev_are_records_of m_is_record_of m_follows) := by
  have Nd := S_are_records_of.nd
  exact (pdss_cons (pds_if (pdt_w (pdw_or (pdt_not (pdt_val (pd_isi2 (pd_var 0) (tyE M.n_list bt_list) (tyE M.n_tuple bt_tuple) (by rfl) M.n_isinstance bt_isi))) (pdw_or1 (pdt_not (pdt_val (pd_all rfl M.n_all (pda_cons (pd_lc rfl Nd (pdi_loc (pd_var 0)) (blkOk_by (own := [("one", 1)]) (by show blkC N_are_records_of (defScope s_are_records_of) _ _ = true; decide +kernel)) (cg_name 1) (fun _ _ _ _ _ => (pg_name (i := 1) Nd rfl (Or.inl rfl) (.inr rfl))) (fun _ _ _ _ _ => pdts_nil) (fun _ _ _ _ _ => (pd_fn F_is_record_of hr (by omega) (pda_cons (pd_var 1) pda_nil)))) pda_nil)))))))
      (pdss_one (pds_ret pd_bl))
      pdss_nil)
      (pdss_one (pds_ret (pd_all rfl M.n_all (pda_cons (pd_lc rfl Nd (pdi_enum (by rfl) M.n_enumerate (pda_cons (pd_var 0) pda_nil)) (blkOk_by (own := [("at", 2), ("one", 1)]) (by show blkC N_are_records_of (defScope s_are_records_of) _ _ = true; decide +kernel)) (cg_pair 2 1 (by decide)) (fun _ _ _ _ _ => (pg_tup rfl (pgs_cons (pg_name (i := 2) Nd rfl (Or.inl rfl) (.inr rfl)) (pgs_cons (pg_name (i := 1) Nd rfl (Or.inl rfl) (.inr rfl)) pgs_nil)) rfl rfl)) (fun _ _ _ _ _ => pdts_nil) (fun _ _ _ _ _ => (pd_fn F_follows hr (by omega) (pda_cons (pd_list_ M.n_list (pda_cons (pd_slice slA dSl_ok (pd_var 0) pdo_none (pdo_some (pd_var 2))) pda_nil)) (pda_cons (pd_var 1) pda_nil))))) pda_nil)))))
theorem ok_are_records_of {P : Program} {w : World} {K : PySem.W.Frag} {mg : Str → Option Value} {base : Heap} {k : Nat} {m_is_record_of : List D → Store → Option (D × Store)} {m_follows : List D → Store → Option (D × Store)} (M : MF w K mg) (F_is_record_of : Has P w K mg base k "is_record_of" P_is_record_of m_is_record_of) (F_follows : Has P w K mg base k "follows" P_follows m_follows) : Has P w K mg base (k + 1) "are_records_of" P_are_records_of (runF N_are_records_of (ev_are_records_of m_is_record_of m_follows) 1) :=
  Has.of M.f_are_records_of S_are_records_of (fun _ _ _ _ _ _ us hl => match us, hl with | [_], _ => rfl) (b_are_records_of M F_is_record_of F_follows)
theorem okK_are_records_of {P : Program} {w : World} {K : PySem.W.Frag} {mg : Str → Option Value} {base : Heap} {k : Nat} {m_is_record_of : List D → Store → Option (D × Store)} {m_follows : List D → Store → Option (D × Store)} (M : MF w K mg) (F_is_record_of : Has P w K mg base k "is_record_of" P_is_record_of m_is_record_of) (F_follows : Has P w K mg base k "follows" P_follows m_follows) : HasK P w K mg base (k + 1) "are_records_of" "value" (runF N_are_records_of (ev_are_records_of m_is_record_of m_follows) 1) :=
  HasK.of M.f_are_records_of S_are_records_of (fun _ _ _ _ _ _ _ => rfl) (b_are_records_of M F_is_record_of F_follows)
/-! journal_of -/
abbrev N_journal_of : List Str := ["records", "number", "record"]
theorem S_journal_of : FnScope N_journal_of P_journal_of (defScope s_journal_of) := ⟨rfl, rfl, rfl, by decide +kernel, rfl, by decide +kernel, by decide +kernel⟩
noncomputable def ev_journal_of (m_line_of : List D → Store → Option (D × Store)) : EvS :=
  (evRet (evMeth "str" dJoin (evC (.str "")) (evCons (evComp (eiEnum (evCons (evVar 0) evNil)) (egC2 1 2) evYes (evCall m_line_of (evCons (evVar 1) (evCons (evVar 2) evNil))) [1, 2]) evNil)))
theorem b_journal_of {P : Program} {w : World} {K : PySem.W.Frag} {mg : Str → Option Value} {base : Heap} {k : Nat} {m_line_of : List D → Store → Option (D × Store)} (M : MF w K mg) (F_line_of : Has P w K mg base k "line_of" P_line_of m_line_of) (f : Addr) (cdv : Value) (A : Around) (outer : List PySem.Env) (s : Shared) (H : Hp) (E : XK) (hr : Room k (A.deeper (envOfC "journal_of" (defScope s_journal_of) s.heap.objs.size f cdv))) :
    PDSs (cxOf CX0 P w K mg base N_journal_of "journal_of" (defScope s_journal_of) f cdv A outer s H E).nox (defBody s_journal_of) (ev_journal_of m_line_of) := by
  have Nd := S_journal_of.nd
  exact (pdss_one (pds_ret (pd_join pd_str (pda_cons (pd_lc rfl Nd (pdi_enum (by rfl) M.n_enumerate (pda_cons (pd_var 0) pda_nil)) (blkOk_by (own := [("number", 1), ("record", 2)]) (by show blkC N_journal_of (defScope s_journal_of) _ _ = true; decide +kernel)) (cg_pair 1 2 (by decide)) (fun _ _ _ _ _ => (pg_tup rfl (pgs_cons (pg_name (i := 1) Nd rfl (Or.inl rfl) (.inr rfl)) (pgs_cons (pg_name (i := 2) Nd rfl (Or.inl rfl) (.inr rfl)) pgs_nil)) rfl rfl)) (fun _ _ _ _ _ => pdts_nil) (fun _ _ _ _ _ => (pd_fn F_line_of hr (by omega) (pda_cons (pd_var 1) (pda_cons (pd_var 2) pda_nil))))) pda_nil))))
theorem ok_journal_of {P : Program} {w : World} {K : PySem.W.Frag} {mg : Str → Option Value} {base : Heap} {k : Nat} {m_line_of : List D → Store → Option (D × Store)} (M : MF w K mg) (F_line_of : Has P w K mg base k "line_of" P_line_of m_line_of) : Has P w K mg base (k + 1) "journal_of" P_journal_of (runF N_journal_of (ev_journal_of m_line_of) 1) :=
  Has.of M.f_journal_of S_journal_of (fun _ _ _ _ _ _ us hl => match us, hl with | [_], _ => rfl) (b_journal_of M F_line_of)
theorem okK_journal_of {P : Program} {w : World} {K : PySem.W.Frag} {mg : Str → Option Value} {base : Heap} {k : Nat} {m_line_of : List D → Store → Option (D × Store)} (M : MF w K mg) (F_line_of : Has P w K mg base k "line_of" P_line_of m_line_of) : HasK P w K mg base (k + 1) "journal_of" "records" (runF N_journal_of (ev_journal_of m_line_of) 1) :=
  HasK.of M.f_journal_of S_journal_of (fun _ _ _ _ _ _ _ => rfl) (b_journal_of M F_line_of)
/-! journal_text -/
abbrev N_journal_text : List Str := ["records"]
theorem S_journal_text : FnScope N_journal_text P_journal_text (defScope s_journal_text) := ⟨rfl, rfl, rfl, by decide +kernel, rfl, by decide +kernel, by decide +kernel⟩
noncomputable def ev_journal_text (m_are_records_of : List D → Store → Option (D × Store)) (m_journal_of : List D → Store → Option (D × Store)) : EvS :=
  (evSeq (evIfS (evNotT (evTest (evCall m_are_records_of (evCons (evVar 0) evNil))))
  evNever
  evNx)
  (evRet (evCall m_journal_of (evCons (evVar 0) evNil))))
theorem b_journal_text {P : Program} {w : World} {K : PySem.W.Frag} {mg : Str → Option Value} {base : Heap} {k : Nat} {m_are_records_of : List D → Store → Option (D × Store)} {m_journal_of : List D → Store → Option (D × Store)} (M : MF w K mg) (F_are_records_of : Has P w K mg base k "are_records_of" P_are_records_of m_are_records_of) (F_journal_of : Has P w K mg base k "journal_of" P_journal_of m_journal_of) (f : Addr) (cdv : Value) (A : Around) (outer : List PySem.Env) (s : Shared) (H : Hp) (E : XK) (hr : Room k (A.deeper (envOfC "journal_text" (defScope s_journal_text) s.heap.objs.size f cdv))) :
    PDSs (cxOf CX0 P w K mg base N_journal_text "journal_text" (defScope s_journal_text) f cdv A outer s H E).nox (defBody s_journal_text) (ev_journal_text m_are_records_of m_journal_of) := by
  have Nd := S_journal_text.nd
  exact (pdss_cons (pds_if (pdt_not (pdt_val (pd_fn F_are_records_of hr (by omega) (pda_cons (pd_var 0) pda_nil))))
      (pdss_one pds_never)
      pdss_nil)
      (pdss_one (pds_ret (pd_fn F_journal_of hr (by omega) (pda_cons (pd_var 0) pda_nil)))))
theorem ok_journal_text {P : Program} {w : World} {K : PySem.W.Frag} {mg : Str → Option Value} {base : Heap} {k : Nat} {m_are_records_of : List D → Store → Option (D × Store)} {m_journal_of : List D → Store → Option (D × Store)} (M : MF w K mg) (F_are_records_of : Has P w K mg base k "are_records_of" P_are_records_of m_are_records_of) (F_journal_of : Has P w K mg base k "journal_of" P_journal_of m_journal_of) : Has P w K mg base (k + 1) "journal_text" P_journal_text (runF N_journal_text (ev_journal_text m_are_records_of m_journal_of) 1) :=
  Has.of M.f_journal_text S_journal_text (fun _ _ _ _ _ _ us hl => match us, hl with | [_], _ => rfl) (b_journal_text M F_are_records_of F_journal_of)
theorem okK_journal_text {P : Program} {w : World} {K : PySem.W.Frag} {mg : Str → Option Value} {base : Heap} {k : Nat} {m_are_records_of : List D → Store → Option (D × Store)} {m_journal_of : List D → Store → Option (D × Store)} (M : MF w K mg) (F_are_records_of : Has P w K mg base k "are_records_of" P_are_records_of m_are_records_of) (F_journal_of : Has P w K mg base k "journal_of" P_journal_of m_journal_of) : HasK P w K mg base (k + 1) "journal_text" "records" (runF N_journal_text (ev_journal_text m_are_records_of m_journal_of) 1) :=
  HasK.of M.f_journal_text S_journal_text (fun _ _ _ _ _ _ _ => rfl) (b_journal_text M F_are_records_of F_journal_of)
/-! int_from -/
abbrev N_int_from : List Str := ["text", "at", "end", "digits", "bare", "number", "sign"]
theorem S_int_from : FnScope N_int_from P_int_from (defScope s_int_from) := ⟨rfl, rfl, rfl, by decide +kernel, rfl, by decide +kernel, by decide +kernel⟩
noncomputable def ev_int_from (m_is_int : List D → Store → Option (D × Store)) : EvS :=
  (evSeq (evAsg (evMeth "str" dFind (evVar 0) (evCons (evC (.str ";")) (evCons (evVar 1) evNil))) (egName 2))
  (evSeq (evAsg (evIf (evTCmp dGe (evVar 2) (evC (.int 0))) (evSl dSl (evVar 0) (evOSome (evVar 1)) (evOSome (evVar 2))) (evC (.str ""))) (egName 3))
  (evSeq (evAsg (evIf (evTCmp (dEqv false) (evSl dSl (evVar 3) evONone (evOSome (evC (.int 1)))) (evC (.str "-"))) (evSl dSl (evVar 3) (evOSome (evC (.int 1))) evONone) (evVar 3)) (egName 4))
  (evSeq (evIfS (evOrT (evTCmp (dEqv false) (evVar 4) (evC (.str ""))) (evOrT (evNotT (evTest (evCall dAll (evCons (evComp (eiStr (evVar 4)) (egC1 6) evYes (evCmp (dIn false) (evVar 6) (evC (.str "0123456789"))) [6]) evNil)))) (evTCmp dGt (evCall dLen (evCons (evVar 4) evNil)) (evC (.int 10)))))
  (evRet (evC .non))
  evNx)
  (evSeq (evAsg (evCall dInt (evCons (evVar 3) evNil)) (egName 5))
  (evRet (evIf (evAndT (evTCmp (dEqv false) (evCall dStr (evCons (evVar 5) evNil)) (evVar 3)) (evTest (evCall m_is_int (evCons (evVar 5) evNil)))) (evTup (evCons (evVar 5) (evCons (evBin dAdd (evVar 2) (evC (.int 1))) evNil))) (evC .non))))))))
theorem b_int_from {P : Program} {w : World} {K : PySem.W.Frag} {mg : Str → Option Value} {base : Heap} {k : Nat} {m_is_int : List D → Store → Option (D × Store)} (M : MF w K mg) (F_is_int : Has P w K mg base k "is_int" P_is_int m_is_int) (f : Addr) (cdv : Value) (A : Around) (outer : List PySem.Env) (s : Shared) (H : Hp) (E : XK) (hr : Room k (A.deeper (envOfC "int_from" (defScope s_int_from) s.heap.objs.size f cdv))) :
    PDSs (cxOf CX0 P w K mg base N_int_from "int_from" (defScope s_int_from) f cdv A outer s H E).nox (defBody s_int_from) (ev_int_from m_is_int) := by
  have Nd := S_int_from.nd
  exact (pdss_cons (pds_set 2 Nd (pd_find (pd_var 0) (pda_cons pd_str (pda_cons (pd_var 1) pda_nil))))
      (pdss_cons (pds_set 3 Nd (pd_if (pdt_cmp op_ge dGe_ok (pd_var 2) pd_int (by rfl)) (pd_slice slA dSl_ok (pd_var 0) (pdo_some (pd_var 1)) (pdo_some (pd_var 2))) pd_str))
      (pdss_cons (pds_set 4 Nd (pd_if (pdt_cmp (op_eqM hr.units) dEqv_ok (pd_slice slA dSl_ok (pd_var 3) pdo_none (pdo_some pd_int)) pd_str (by rfl)) (pd_slice slA dSl_ok (pd_var 3) (pdo_some pd_int) pdo_none) (pd_var 3)))
      (pdss_cons (pds_if (pdt_w (pdw_or (pdt_cmp (op_eqM hr.units) dEqv_ok (pd_var 4) pd_str (by rfl)) (pdw_or (pdt_not (pdt_val (pd_all rfl M.n_all (pda_cons (pd_lc rfl Nd (pdi_str (pd_var 4)) (blkOk_by (own := [("sign", 6)]) (by show blkC N_int_from (defScope s_int_from) _ _ = true; decide +kernel)) (cg_name 6) (fun _ _ _ _ _ => (pg_name (i := 6) Nd rfl (Or.inl rfl) (.inr rfl))) (fun _ _ _ _ _ => pdts_nil) (fun _ _ _ _ _ => (pd_cmp (opIn (u65 hr)) (dIn_ok false) (pd_var 6) pd_str (by rfl)))) pda_nil)))) (pdw_or1 (pdt_cmp op_gt dGt_ok (pd_len M.n_len (pda_cons (pd_var 4) pda_nil)) pd_int (by rfl))))))
      (pdss_one (pds_ret pd_non))
      pdss_nil)
      (pdss_cons (pds_set 5 Nd (pd_int_ M.n_int (pda_cons (pd_var 3) pda_nil)))
      (pdss_one (pds_ret (pd_if (pdt_w (pdw_and (pdt_cmp (op_eqM hr.units) dEqv_ok (pd_str_ M.n_str (pda_cons (pd_var 5) pda_nil)) (pd_var 3) (by rfl)) (pdw_and1 (pdt_val (pd_fn F_is_int hr (by omega) (pda_cons (pd_var 5) pda_nil)))))) (pd_tup (pda_cons (pd_var 5) (pda_cons (pd_bin opAdd dAdd_ok (pd_var 2) pd_int) pda_nil))) pd_non))))))))
theorem ok_int_from {P : Program} {w : World} {K : PySem.W.Frag} {mg : Str → Option Value} {base : Heap} {k : Nat} {m_is_int : List D → Store → Option (D × Store)} (M : MF w K mg) (F_is_int : Has P w K mg base k "is_int" P_is_int m_is_int) : Has P w K mg base (k + 1) "int_from" P_int_from (runF N_int_from (ev_int_from m_is_int) 2) :=
  Has.of M.f_int_from S_int_from (fun _ _ _ _ _ _ us hl => match us, hl with | [_, _], _ => rfl) (b_int_from M F_is_int)
/-! telling_from -/
abbrev N_telling_from : List Str := ["text", "at", "deep", "sign", "found", "near", "far"]
theorem S_telling_from : FnScope N_telling_from P_telling_from (defScope s_telling_from) := ⟨rfl, rfl, rfl, by decide +kernel, rfl, by decide +kernel, by decide +kernel⟩
noncomputable def ev_telling_from (m_int_from : List D → Store → Option (D × Store)) (m_telling_from : List D → Store → Option (D × Store)) : EvS :=
  (evSeq (evAsg (evSl dSl (evVar 0) (evOSome (evVar 1)) (evOSome (evBin dAdd (evVar 1) (evC (.int 1))))) (egName 3))
  (evSeq (evIfS (evTCmp (dEqv false) (evVar 2) (evC (.int 0)))
  (evRet (evC .non))
  evNx)
  (evSeq (evIfS (evTKIn false tab_PLAIN (evVar 3))
  (evRet (evTup (evCons (evKIx tab_PLAIN (evVar 3)) (evCons (evBin dAdd (evVar 1) (evC (.int 1))) evNil))))
  evNx)
  (evSeq (evIfS (evTCmp (dEqv false) (evVar 3) (evC (.str "i")))
  (evSeq (evAsg (evCall m_int_from (evCons (evVar 0) (evCons (evBin dAdd (evVar 1) (evC (.int 1))) evNil))) (egName 4))
  (evRet (evIf (evTCmp (dIsN false) (evVar 4) (evC .non)) (evC .non) (evTup (evCons (evTup (evCons (evC (.str "int")) (evCons (evBin dIx (evVar 4) (evC (.int 0))) evNil))) (evCons (evBin dIx (evVar 4) (evC (.int 1))) evNil))))))
  evNx)
  (evSeq (evIfS (evTKIn true tab_DOUBLE (evVar 3))
  (evRet (evC .non))
  evNx)
  (evSeq (evAsg (evCall m_telling_from (evCons (evVar 0) (evCons (evBin dAdd (evVar 1) (evC (.int 1))) (evCons (evBin dSub (evVar 2) (evC (.int 1))) evNil)))) (egName 5))
  (evSeq (evAsg (evIf (evTCmp (dIsN false) (evVar 5) (evC .non)) (evC .non) (evCall m_telling_from (evCons (evVar 0) (evCons (evBin dIx (evVar 5) (evC (.int 1))) (evCons (evBin dSub (evVar 2) (evC (.int 1))) evNil))))) (egName 6))
  (evRet (evIf (evTCmp (dIsN false) (evVar 6) (evC .non)) (evC .non) (evTup (evCons (evTup (evCons (evKIx tab_DOUBLE (evVar 3)) (evCons (evBin dIx (evVar 5) (evC (.int 0))) (evCons (evBin dIx (evVar 6) (evC (.int 0))) evNil)))) (evCons (evBin dIx (evVar 6) (evC (.int 1))) evNil))))))))))))
theorem b_telling_from {P : Program} {w : World} {K : PySem.W.Frag} {mg : Str → Option Value} {base : Heap} {k : Nat} {m_int_from : List D → Store → Option (D × Store)} {m_telling_from : List D → Store → Option (D × Store)} (M : MF w K mg) (F_int_from : Has P w K mg base k "int_from" P_int_from m_int_from) (F_telling_from : Has P w K mg base k "telling_from" P_telling_from m_telling_from) (f : Addr) (cdv : Value) (A : Around) (outer : List PySem.Env) (s : Shared) (H : Hp) (E : XK) (hr : Room k (A.deeper (envOfC "telling_from" (defScope s_telling_from) s.heap.objs.size f cdv))) :
    PDSs (cxOf CX0 P w K mg base N_telling_from "telling_from" (defScope s_telling_from) f cdv A outer s H E).nox (defBody s_telling_from) (ev_telling_from m_int_from m_telling_from) := by
  have Nd := S_telling_from.nd
  exact (pdss_cons (pds_set 3 Nd (pd_slice slA dSl_ok (pd_var 0) (pdo_some (pd_var 1)) (pdo_some (pd_bin opAdd dAdd_ok (pd_var 1) pd_int))))
      (pdss_cons (pds_if (pdt_cmp (op_eqM hr.units) dEqv_ok (pd_var 2) pd_int (by rfl))
      (pdss_one (pds_ret pd_non))
      pdss_nil)
      (pdss_cons (pds_if (tIn M.t_PLAIN (pd_var 3))
      (pdss_one (pds_ret (pd_tup (pda_cons (xK M.t_PLAIN (pd_var 3)) (pda_cons (pd_bin opAdd dAdd_ok (pd_var 1) pd_int) pda_nil)))))
      pdss_nil)
      (pdss_cons (pds_if (pdt_cmp (op_eqM hr.units) dEqv_ok (pd_var 3) pd_str (by rfl))
      (pdss_cons (pds_set 4 Nd (pd_fn F_int_from hr (by omega) (pda_cons (pd_var 0) (pda_cons (pd_bin opAdd dAdd_ok (pd_var 1) pd_int) pda_nil))))
      (pdss_one (pds_ret (pd_if (pdt_cmp opIsN (dIsN_ok false) (pd_var 4) pd_non (by rfl)) pd_non (pd_tup (pda_cons (pd_tup (pda_cons pd_str (pda_cons (pd_ix ix_seq dIx_ok (pd_var 4) pd_int (fun _ _ => rfl)) pda_nil))) (pda_cons (pd_ix ix_seq dIx_ok (pd_var 4) pd_int (fun _ _ => rfl)) pda_nil)))))))
      pdss_nil)
      (pdss_cons (pds_if (tInN M.t_DOUBLE (pd_var 3))
      (pdss_one (pds_ret pd_non))
      pdss_nil)
      (pdss_cons (pds_set 5 Nd (pd_fn F_telling_from hr (by omega) (pda_cons (pd_var 0) (pda_cons (pd_bin opAdd dAdd_ok (pd_var 1) pd_int) (pda_cons (pd_bin op_sub dSub_ok (pd_var 2) pd_int) pda_nil)))))
      (pdss_cons (pds_set 6 Nd (pd_if (pdt_cmp opIsN (dIsN_ok false) (pd_var 5) pd_non (by rfl)) pd_non (pd_fn F_telling_from hr (by omega) (pda_cons (pd_var 0) (pda_cons (pd_ix ix_seq dIx_ok (pd_var 5) pd_int (fun _ _ => rfl)) (pda_cons (pd_bin op_sub dSub_ok (pd_var 2) pd_int) pda_nil))))))
      (pdss_one (pds_ret (pd_if (pdt_cmp opIsN (dIsN_ok false) (pd_var 6) pd_non (by rfl)) pd_non (pd_tup (pda_cons (pd_tup (pda_cons (xK M.t_DOUBLE (pd_var 3)) (pda_cons (pd_ix ix_seq dIx_ok (pd_var 5) pd_int (fun _ _ => rfl)) (pda_cons (pd_ix ix_seq dIx_ok (pd_var 6) pd_int (fun _ _ => rfl)) pda_nil)))) (pda_cons (pd_ix ix_seq dIx_ok (pd_var 6) pd_int (fun _ _ => rfl)) pda_nil)))))))))))))
theorem ok_telling_from {P : Program} {w : World} {K : PySem.W.Frag} {mg : Str → Option Value} {base : Heap} {k : Nat} {m_int_from : List D → Store → Option (D × Store)} {m_telling_from : List D → Store → Option (D × Store)} (M : MF w K mg) (F_int_from : Has P w K mg base k "int_from" P_int_from m_int_from) (F_telling_from : Has P w K mg base k "telling_from" P_telling_from m_telling_from) : Has P w K mg base (k + 1) "telling_from" P_telling_from (runF N_telling_from (ev_telling_from m_int_from m_telling_from) 3) :=
  Has.of M.f_telling_from S_telling_from (fun _ _ _ _ _ _ us hl => match us, hl with | [_, _, _], _ => rfl) (b_telling_from M F_int_from F_telling_from)
/-! telling_by -/
abbrev N_telling_by : List Str := ["text", "found"]
theorem S_telling_by : FnScope N_telling_by P_telling_by (defScope s_telling_by) := ⟨rfl, rfl, rfl, by decide +kernel, rfl, by decide +kernel, by decide +kernel⟩
noncomputable def ev_telling_by (m_telling_from : List D → Store → Option (D × Store)) : EvS :=
  (evSeq (evAsg (evCall m_telling_from (evCons (evVar 0) (evCons (evC (.int 0)) (evCons (evC (.int (60))) evNil)))) (egName 1))
  (evRet (evIf (evAndT (evTCmp (dIsN true) (evVar 1) (evC .non)) (evTCmp (dEqv false) (evBin dIx (evVar 1) (evC (.int 1))) (evCall dLen (evCons (evVar 0) evNil)))) (evBin dIx (evVar 1) (evC (.int 0))) (evC .non))))
theorem b_telling_by {P : Program} {w : World} {K : PySem.W.Frag} {mg : Str → Option Value} {base : Heap} {k : Nat} {m_telling_from : List D → Store → Option (D × Store)} (M : MF w K mg) (F_telling_from : Has P w K mg base k "telling_from" P_telling_from m_telling_from) (f : Addr) (cdv : Value) (A : Around) (outer : List PySem.Env) (s : Shared) (H : Hp) (E : XK) (hr : Room k (A.deeper (envOfC "telling_by" (defScope s_telling_by) s.heap.objs.size f cdv))) :
    PDSs (cxOf CX0 P w K mg base N_telling_by "telling_by" (defScope s_telling_by) f cdv A outer s H E).nox (defBody s_telling_by) (ev_telling_by m_telling_from) := by
  have Nd := S_telling_by.nd
  exact (pdss_cons (pds_set 1 Nd (pd_fn F_telling_from hr (by omega) (pda_cons (pd_var 0) (pda_cons pd_int (pda_cons (gC M.c_MOST_DEEP) pda_nil)))))
      (pdss_one (pds_ret (pd_if (pdt_w (pdw_and (pdt_cmp opNotN (dIsN_ok true) (pd_var 1) pd_non (by rfl)) (pdw_and1 (pdt_cmp (op_eqM hr.units) dEqv_ok (pd_ix ix_seq dIx_ok (pd_var 1) pd_int (fun _ _ => rfl)) (pd_len M.n_len (pda_cons (pd_var 0) pda_nil)) (by rfl))))) (pd_ix ix_seq dIx_ok (pd_var 1) pd_int (fun _ _ => rfl)) pd_non))))
theorem ok_telling_by {P : Program} {w : World} {K : PySem.W.Frag} {mg : Str → Option Value} {base : Heap} {k : Nat} {m_telling_from : List D → Store → Option (D × Store)} (M : MF w K mg) (F_telling_from : Has P w K mg base k "telling_from" P_telling_from m_telling_from) : Has P w K mg base (k + 1) "telling_by" P_telling_by (runF N_telling_by (ev_telling_by m_telling_from) 1) :=
  Has.of M.f_telling_by S_telling_by (fun _ _ _ _ _ _ us hl => match us, hl with | [_], _ => rfl) (b_telling_by M F_telling_from)
theorem okK_telling_by {P : Program} {w : World} {K : PySem.W.Frag} {mg : Str → Option Value} {base : Heap} {k : Nat} {m_telling_from : List D → Store → Option (D × Store)} (M : MF w K mg) (F_telling_from : Has P w K mg base k "telling_from" P_telling_from m_telling_from) : HasK P w K mg base (k + 1) "telling_by" "text" (runF N_telling_by (ev_telling_by m_telling_from) 1) :=
  HasK.of M.f_telling_by S_telling_by (fun _ _ _ _ _ _ _ => rfl) (b_telling_by M F_telling_from)
/-! number_by -/
abbrev N_number_by : List Str := ["text", "sign"]
theorem S_number_by : FnScope N_number_by P_number_by (defScope s_number_by) := ⟨rfl, rfl, rfl, by decide +kernel, rfl, by decide +kernel, by decide +kernel⟩
noncomputable def ev_number_by  : EvS :=
  (evSeq (evIfS (evOrT (evTCmp (dEqv false) (evVar 0) (evC (.str ""))) (evOrT (evTCmp dGt (evCall dLen (evCons (evVar 0) evNil)) (evC (.int 12))) (evNotT (evTest (evCall dAll (evCons (evComp (eiStr (evVar 0)) (egC1 1) evYes (evCmp (dIn false) (evVar 1) (evC (.str "0123456789"))) [1]) evNil))))))
  (evRet (evC .non))
  evNx)
  (evRet (evIf (evTCmp (dEqv false) (evCall dStr (evCons (evCall dInt (evCons (evVar 0) evNil)) evNil)) (evVar 0)) (evCall dInt (evCons (evVar 0) evNil)) (evC .non))))
theorem b_number_by {P : Program} {w : World} {K : PySem.W.Frag} {mg : Str → Option Value} {base : Heap} {k : Nat}  (M : MF w K mg) (f : Addr) (cdv : Value) (A : Around) (outer : List PySem.Env) (s : Shared) (H : Hp) (E : XK) (hr : Room k (A.deeper (envOfC "number_by" (defScope s_number_by) s.heap.objs.size f cdv))) :
    PDSs (cxOf CX0 P w K mg base N_number_by "number_by" (defScope s_number_by) f cdv A outer s H E).nox (defBody s_number_by) (ev_number_by ) := by
  have Nd := S_number_by.nd
  exact (pdss_cons (pds_if (pdt_w (pdw_or (pdt_cmp (op_eqM hr.units) dEqv_ok (pd_var 0) pd_str (by rfl)) (pdw_or (pdt_cmp op_gt dGt_ok (pd_len M.n_len (pda_cons (pd_var 0) pda_nil)) pd_int (by rfl)) (pdw_or1 (pdt_not (pdt_val (pd_all rfl M.n_all (pda_cons (pd_lc rfl Nd (pdi_str (pd_var 0)) (blkOk_by (own := [("sign", 1)]) (by show blkC N_number_by (defScope s_number_by) _ _ = true; decide +kernel)) (cg_name 1) (fun _ _ _ _ _ => (pg_name (i := 1) Nd rfl (Or.inl rfl) (.inr rfl))) (fun _ _ _ _ _ => pdts_nil) (fun _ _ _ _ _ => (pd_cmp (opIn (u65 hr)) (dIn_ok false) (pd_var 1) pd_str (by rfl)))) pda_nil))))))))
      (pdss_one (pds_ret pd_non))
      pdss_nil)
      (pdss_one (pds_ret (pd_if (pdt_cmp (op_eqM hr.units) dEqv_ok (pd_str_ M.n_str (pda_cons (pd_int_ M.n_int (pda_cons (pd_var 0) pda_nil)) pda_nil)) (pd_var 0) (by rfl)) (pd_int_ M.n_int (pda_cons (pd_var 0) pda_nil)) pd_non))))
theorem ok_number_by {P : Program} {w : World} {K : PySem.W.Frag} {mg : Str → Option Value} {base : Heap} {k : Nat}  (M : MF w K mg) : Has P w K mg base (k + 1) "number_by" P_number_by (runF N_number_by (ev_number_by ) 1) :=
  Has.of M.f_number_by S_number_by (fun _ _ _ _ _ _ us hl => match us, hl with | [_], _ => rfl) (b_number_by M )
theorem okK_number_by {P : Program} {w : World} {K : PySem.W.Frag} {mg : Str → Option Value} {base : Heap} {k : Nat}  (M : MF w K mg) : HasK P w K mg base (k + 1) "number_by" "text" (runF N_number_by (ev_number_by ) 1) :=
  HasK.of M.f_number_by S_number_by (fun _ _ _ _ _ _ _ => rfl) (b_number_by M )
/-! record_by -/
abbrev N_record_by : List Str := ["parts", "word", "rest", "found"]
theorem S_record_by : FnScope N_record_by P_record_by (defScope s_record_by) := ⟨rfl, rfl, rfl, by decide +kernel, rfl, by decide +kernel, by decide +kernel⟩
noncomputable def ev_record_by (m_telling_by : List D → Store → Option (D × Store)) (m_number_by : List D → Store → Option (D × Store)) (m_is_record_of : List D → Store → Option (D × Store)) : EvS :=
  (evSeq (evPar 1 2 (evCons (evBin dIx (evVar 0) (evC (.int 0))) (evCons (evSl dSl (evVar 0) (evOSome (evC (.int 1))) evONone) evNil)))
  (evSeq (evIfS (evTCmp (dIn false) (evVar 1) (evTup (evCons (evC (.str "program")) (evCons (evC (.str "inputs")) evNil))))
  (evAsg (evTup (evCons (evVar 1) (evCons (evRepl "\\" "\n" (evMeth "str" dJoin (evC (.str " ")) (evCons (evVar 2) evNil))) evNil))) (egName 3))
  (evIfS (evAndT (evTCmp (dEqv false) (evVar 1) (evC (.str "set"))) (evTCmp (dEqv false) (evCall dLen (evCons (evVar 2) evNil)) (evC (.int 3))))
  (evAsg (evTup (evCons (evC (.str "set")) (evCons (evBin dIx (evVar 2) (evC (.int 0))) (evCons (evCall m_telling_by (evCons (evBin dIx (evVar 2) (evC (.int 1))) evNil)) (evCons (evCall m_telling_by (evCons (evBin dIx (evVar 2) (evC (.int 2))) evNil)) evNil))))) (egName 3))
  (evIfS (evAndT (evTCmp (dEqv false) (evVar 1) (evC (.str "told"))) (evTCmp (dEqv false) (evCall dLen (evCons (evVar 2) evNil)) (evC (.int 2))))
  (evAsg (evTup (evCons (evC (.str "told")) (evCons (evCall m_telling_by (evCons (evBin dIx (evVar 2) (evC (.int 0))) evNil)) (evCons (evCall m_number_by (evCons (evBin dIx (evVar 2) (evC (.int 1))) evNil)) evNil)))) (egName 3))
  (evIfS (evAndT (evTCmp (dEqv false) (evVar 1) (evC (.str "kept"))) (evTCmp (dEqv false) (evCall dLen (evCons (evVar 2) evNil)) (evC (.int 2))))
  (evAsg (evTup (evCons (evC (.str "kept")) (evCons (evCall m_number_by (evCons (evBin dIx (evVar 2) (evC (.int 0))) evNil)) (evCons (evCall m_number_by (evCons (evBin dIx (evVar 2) (evC (.int 1))) evNil)) evNil)))) (egName 3))
  (evRet (evC .non))))))
  (evRet (evIf (evAndT (evTCmp (dIn true) (evC .non) (evVar 3)) (evTest (evCall m_is_record_of (evCons (evVar 3) evNil)))) (evVar 3) (evC .non)))))
theorem b_record_by {P : Program} {w : World} {K : PySem.W.Frag} {mg : Str → Option Value} {base : Heap} {k : Nat} {m_telling_by : List D → Store → Option (D × Store)} {m_number_by : List D → Store → Option (D × Store)} {m_is_record_of : List D → Store → Option (D × Store)} (M : MF w K mg) (F_telling_by : Has P w K mg base k "telling_by" P_telling_by m_telling_by) (F_number_by : Has P w K mg base k "number_by" P_number_by m_number_by) (F_is_record_of : Has P w K mg base k "is_record_of" P_is_record_of m_is_record_of) (f : Addr) (cdv : Value) (A : Around) (outer : List PySem.Env) (s : Shared) (H : Hp) (E : XK) (hr : Room k (A.deeper (envOfC "record_by" (defScope s_record_by) s.heap.objs.size f cdv))) :
    PDSs (cxOf CX0 P w K mg base N_record_by "record_by" (defScope s_record_by) f cdv A outer s H E).nox (defBody s_record_by) (ev_record_by m_telling_by m_number_by m_is_record_of) := by
  have Nd := S_record_by.nd
  exact (pdss_cons (pds_par 1 2 rfl Nd (pda_cons (pd_ix ix_seq dIx_ok (pd_var 0) pd_int (fun _ _ => rfl)) (pda_cons (pd_slice slA dSl_ok (pd_var 0) (pdo_some pd_int) pdo_none) pda_nil)))
      (pdss_cons (pds_if (pdt_cmp (opIn (u65 hr)) (dIn_ok false) (pd_var 1) (pd_tup (pda_cons (gC M.c_PROGRAM) (pda_cons (gC M.c_INPUTS) pda_nil))) (by rfl))
      (pdss_one (pds_set 3 Nd (pd_tup (pda_cons (pd_var 1) (pda_cons (rP M.r_MARK_FEED (pd_join pd_str (pda_cons (pd_var 2) pda_nil))) pda_nil)))))
      (pdss_one (pds_if (pdt_w (pdw_and (pdt_cmp (op_eqM hr.units) dEqv_ok (pd_var 1) (gC M.c_SET) (by rfl)) (pdw_and1 (pdt_cmp (op_eqM hr.units) dEqv_ok (pd_len M.n_len (pda_cons (pd_var 2) pda_nil)) pd_int (by rfl)))))
      (pdss_one (pds_set 3 Nd (pd_tup (pda_cons (gC M.c_SET) (pda_cons (pd_ix ix_seq dIx_ok (pd_var 2) pd_int (fun _ _ => rfl)) (pda_cons (pd_fn F_telling_by hr (by omega) (pda_cons (pd_ix ix_seq dIx_ok (pd_var 2) pd_int (fun _ _ => rfl)) pda_nil)) (pda_cons (pd_fn F_telling_by hr (by omega) (pda_cons (pd_ix ix_seq dIx_ok (pd_var 2) pd_int (fun _ _ => rfl)) pda_nil)) pda_nil)))))))
      (pdss_one (pds_if (pdt_w (pdw_and (pdt_cmp (op_eqM hr.units) dEqv_ok (pd_var 1) (gC M.c_TOLD) (by rfl)) (pdw_and1 (pdt_cmp (op_eqM hr.units) dEqv_ok (pd_len M.n_len (pda_cons (pd_var 2) pda_nil)) pd_int (by rfl)))))
      (pdss_one (pds_set 3 Nd (pd_tup (pda_cons (gC M.c_TOLD) (pda_cons (pd_fn F_telling_by hr (by omega) (pda_cons (pd_ix ix_seq dIx_ok (pd_var 2) pd_int (fun _ _ => rfl)) pda_nil)) (pda_cons (pd_fn F_number_by hr (by omega) (pda_cons (pd_ix ix_seq dIx_ok (pd_var 2) pd_int (fun _ _ => rfl)) pda_nil)) pda_nil))))))
      (pdss_one (pds_if (pdt_w (pdw_and (pdt_cmp (op_eqM hr.units) dEqv_ok (pd_var 1) (gC M.c_KEPT) (by rfl)) (pdw_and1 (pdt_cmp (op_eqM hr.units) dEqv_ok (pd_len M.n_len (pda_cons (pd_var 2) pda_nil)) pd_int (by rfl)))))
      (pdss_one (pds_set 3 Nd (pd_tup (pda_cons (gC M.c_KEPT) (pda_cons (pd_fn F_number_by hr (by omega) (pda_cons (pd_ix ix_seq dIx_ok (pd_var 2) pd_int (fun _ _ => rfl)) pda_nil)) (pda_cons (pd_fn F_number_by hr (by omega) (pda_cons (pd_ix ix_seq dIx_ok (pd_var 2) pd_int (fun _ _ => rfl)) pda_nil)) pda_nil))))))
      (pdss_one (pds_ret pd_non)))))))))
      (pdss_one (pds_ret (pd_if (pdt_w (pdw_and (pdt_cmp (opNotIn (u65 hr)) (dIn_ok true) pd_non (pd_var 3) (by rfl)) (pdw_and1 (pdt_val (pd_fn F_is_record_of hr (by omega) (pda_cons (pd_var 3) pda_nil)))))) (pd_var 3) pd_non)))))
theorem ok_record_by {P : Program} {w : World} {K : PySem.W.Frag} {mg : Str → Option Value} {base : Heap} {k : Nat} {m_telling_by : List D → Store → Option (D × Store)} {m_number_by : List D → Store → Option (D × Store)} {m_is_record_of : List D → Store → Option (D × Store)} (M : MF w K mg) (F_telling_by : Has P w K mg base k "telling_by" P_telling_by m_telling_by) (F_number_by : Has P w K mg base k "number_by" P_number_by m_number_by) (F_is_record_of : Has P w K mg base k "is_record_of" P_is_record_of m_is_record_of) : Has P w K mg base (k + 1) "record_by" P_record_by (runF N_record_by (ev_record_by m_telling_by m_number_by m_is_record_of) 1) :=
  Has.of M.f_record_by S_record_by (fun _ _ _ _ _ _ us hl => match us, hl with | [_], _ => rfl) (b_record_by M F_telling_by F_number_by F_is_record_of)
theorem okK_record_by {P : Program} {w : World} {K : PySem.W.Frag} {mg : Str → Option Value} {base : Heap} {k : Nat} {m_telling_by : List D → Store → Option (D × Store)} {m_number_by : List D → Store → Option (D × Store)} {m_is_record_of : List D → Store → Option (D × Store)} (M : MF w K mg) (F_telling_by : Has P w K mg base k "telling_by" P_telling_by m_telling_by) (F_number_by : Has P w K mg base k "number_by" P_number_by m_number_by) (F_is_record_of : Has P w K mg base k "is_record_of" P_is_record_of m_is_record_of) : HasK P w K mg base (k + 1) "record_by" "parts" (runF N_record_by (ev_record_by m_telling_by m_number_by m_is_record_of) 1) :=
  HasK.of M.f_record_by S_record_by (fun _ _ _ _ _ _ _ => rfl) (b_record_by M F_telling_by F_number_by F_is_record_of)
/-! record_in -/
abbrev N_record_in : List Str := ["number", "line", "parts", "head"]
theorem S_record_in : FnScope N_record_in P_record_in (defScope s_record_in) := ⟨rfl, rfl, rfl, by decide +kernel, rfl, by decide +kernel, by decide +kernel⟩
noncomputable def ev_record_in (m_sum_of_signs : List D → Store → Option (D × Store)) (m_record_by : List D → Store → Option (D × Store)) : EvS :=
  (evSeq (evAsg (evMeth "str" dSplit (evVar 1) (evCons (evC (.str " ")) evNil)) (egName 2))
  (evSeq (evIfS (evOrT (evTCmp dLt (evCall dLen (evCons (evVar 2) evNil)) (evC (.int 4))) (evTCmp (dEqv true) (evBin dIx (evVar 2) (evC (.int 0))) (evCall dStr (evCons (evVar 0) evNil))))
  (evRet (evC .non))
  evNx)
  (evSeq (evAsg (evMeth "str" dJoin (evC (.str " ")) (evCons (evSl dSl (evVar 2) evONone (evOSome (evUn dNeg (evC (.int 1))))) evNil)) (egName 3))
  (evRet (evIf (evTCmp (dEqv false) (evBin dIx (evVar 2) (evUn dNeg (evC (.int 1)))) (evCall dStr (evCons (evCall m_sum_of_signs (evCons (evVar 3) evNil)) evNil))) (evCall m_record_by (evCons (evSl dSl (evVar 2) (evOSome (evC (.int 1))) (evOSome (evUn dNeg (evC (.int 1))))) evNil)) (evC .non))))))
theorem b_record_in {P : Program} {w : World} {K : PySem.W.Frag} {mg : Str → Option Value} {base : Heap} {k : Nat} {m_sum_of_signs : List D → Store → Option (D × Store)} {m_record_by : List D → Store → Option (D × Store)} (M : MF w K mg) (F_sum_of_signs : Has P w K mg base k "sum_of_signs" P_sum_of_signs m_sum_of_signs) (F_record_by : Has P w K mg base k "record_by" P_record_by m_record_by) (f : Addr) (cdv : Value) (A : Around) (outer : List PySem.Env) (s : Shared) (H : Hp) (E : XK) (hr : Room k (A.deeper (envOfC "record_in" (defScope s_record_in) s.heap.objs.size f cdv))) :
    PDSs (cxOf CX0 P w K mg base N_record_in "record_in" (defScope s_record_in) f cdv A outer s H E).nox (defBody s_record_in) (ev_record_in m_sum_of_signs m_record_by) := by
  have Nd := S_record_in.nd
  exact (pdss_cons (pds_set 2 Nd (pd_split (pd_var 1) (pda_cons pd_str pda_nil)))
      (pdss_cons (pds_if (pdt_w (pdw_or (pdt_cmp op_lt dLt_ok (pd_len M.n_len (pda_cons (pd_var 2) pda_nil)) pd_int (by rfl)) (pdw_or1 (pdt_cmp (op_neM hr.units) dEqv_ok (pd_ix ix_seq dIx_ok (pd_var 2) pd_int (fun _ _ => rfl)) (pd_str_ M.n_str (pda_cons (pd_var 0) pda_nil)) (by rfl)))))
      (pdss_one (pds_ret pd_non))
      pdss_nil)
      (pdss_cons (pds_set 3 Nd (pd_join pd_str (pda_cons (pd_slice slA dSl_ok (pd_var 2) pdo_none (pdo_some (pd_un un_neg dNeg_ok pd_int))) pda_nil)))
      (pdss_one (pds_ret (pd_if (pdt_cmp (op_eqM hr.units) dEqv_ok (pd_ix ix_seq dIx_ok (pd_var 2) (pd_un un_neg dNeg_ok pd_int) (fun _ _ => rfl)) (pd_str_ M.n_str (pda_cons (pd_fn F_sum_of_signs hr (by omega) (pda_cons (pd_var 3) pda_nil)) pda_nil)) (by rfl)) (pd_fn F_record_by hr (by omega) (pda_cons (pd_slice slA dSl_ok (pd_var 2) (pdo_some pd_int) (pdo_some (pd_un un_neg dNeg_ok pd_int))) pda_nil)) pd_non))))))
theorem ok_record_in {P : Program} {w : World} {K : PySem.W.Frag} {mg : Str → Option Value} {base : Heap} {k : Nat} {m_sum_of_signs : List D → Store → Option (D × Store)} {m_record_by : List D → Store → Option (D × Store)} (M : MF w K mg) (F_sum_of_signs : Has P w K mg base k "sum_of_signs" P_sum_of_signs m_sum_of_signs) (F_record_by : Has P w K mg base k "record_by" P_record_by m_record_by) : Has P w K mg base (k + 1) "record_in" P_record_in (runF N_record_in (ev_record_in m_sum_of_signs m_record_by) 2) :=
  Has.of M.f_record_in S_record_in (fun _ _ _ _ _ _ us hl => match us, hl with | [_, _], _ => rfl) (b_record_in M F_sum_of_signs F_record_by)
/-! read_of -/
abbrev N_read_of : List Str := ["text", "records", "at", "end", "record"]
theorem S_read_of : FnScope N_read_of P_read_of (defScope s_read_of) := ⟨rfl, rfl, rfl, by decide +kernel, rfl, by decide +kernel, by decide +kernel⟩
noncomputable def ev_read_of (m_record_in : List D → Store → Option (D × Store)) (m_follows : List D → Store → Option (D × Store)) : EvS :=
  (evSeq (evPar 1 2 (evCons (evLst evNil) (evCons (evC (.int 0)) evNil)))
  (evSeq (evAsg (evMeth "str" dFind (evVar 0) (evCons (evC (.str "\n")) (evCons (evVar 2) evNil))) (egName 3))
  (evSeq (evWhile (evTCmp dGe (evVar 3) (evC (.int 0)))
  (evSeq (evAsg (evCall m_record_in (evCons (evCall dLen (evCons (evVar 1) evNil)) (evCons (evSl dSl (evVar 0) (evOSome (evVar 2)) (evOSome (evVar 3))) evNil))) (egName 4))
  (evSeq (evIfS (evOrT (evTCmp (dIsN false) (evVar 4) (evC .non)) (evNotT (evTest (evCall m_follows (evCons (evVar 1) (evCons (evVar 4) evNil))))))
  (evRet (evTup (evCons (evVar 1) (evCons (evVar 2) evNil))))
  evNx)
  (evSeq (evDrop (evMeth "list" dAppend (evVar 1) (evCons (evVar 4) evNil)))
  (evSeq (evAsg (evBin dAdd (evVar 3) (evC (.int 1))) (egName 2))
  (evAsg (evMeth "str" dFind (evVar 0) (evCons (evC (.str "\n")) (evCons (evVar 2) evNil))) (egName 3)))))))
  (evRet (evTup (evCons (evVar 1) (evCons (evVar 2) evNil)))))))
theorem b_read_of {P : Program} {w : World} {K : PySem.W.Frag} {mg : Str → Option Value} {base : Heap} {k : Nat} {m_record_in : List D → Store → Option (D × Store)} {m_follows : List D → Store → Option (D × Store)} (M : MF w K mg) (F_record_in : Has P w K mg base k "record_in" P_record_in m_record_in) (F_follows : Has P w K mg base k "follows" P_follows m_follows) (f : Addr) (cdv : Value) (A : Around) (outer : List PySem.Env) (s : Shared) (H : Hp) (E : XK) (hr : Room k (A.deeper (envOfC "read_of" (defScope s_read_of) s.heap.objs.size f cdv))) :
    PDSs (cxOf CX0 P w K mg base N_read_of "read_of" (defScope s_read_of) f cdv A outer s H E).nox (defBody s_read_of) (ev_read_of m_record_in m_follows) := by
  have Nd := S_read_of.nd
  exact (pdss_cons (pds_par 1 2 rfl Nd (pda_cons (pd_lst pda_nil) (pda_cons pd_int pda_nil)))
      (pdss_cons (pds_set 3 Nd (pd_find (pd_var 0) (pda_cons (gC M.c_FEED) (pda_cons (pd_var 2) pda_nil))))
      (pdss_cons (pds_while PassesOwn.never (pdt_cmp op_ge dGe_ok (pd_var 3) pd_int (by rfl))
      (pdss_cons (pds_set 4 Nd (pd_fn F_record_in hr (by omega) (pda_cons (pd_len M.n_len (pda_cons (pd_var 1) pda_nil)) (pda_cons (pd_slice slA dSl_ok (pd_var 0) (pdo_some (pd_var 2)) (pdo_some (pd_var 3))) pda_nil))))
      (pdss_cons (pds_if (pdt_w (pdw_or (pdt_cmp opIsN (dIsN_ok false) (pd_var 4) pd_non (by rfl)) (pdw_or1 (pdt_not (pdt_val (pd_fn F_follows hr (by omega) (pda_cons (pd_var 1) (pda_cons (pd_var 4) pda_nil))))))))
      (pdss_one (pds_ret (pd_tup (pda_cons (pd_var 1) (pda_cons (pd_var 2) pda_nil)))))
      pdss_nil)
      (pdss_cons (pds_expr (pd_append (pd_var 1) (pda_cons (pd_var 4) pda_nil)))
      (pdss_cons (pds_set 2 Nd (pd_bin opAdd dAdd_ok (pd_var 3) pd_int))
      (pdss_one (pds_set 3 Nd (pd_find (pd_var 0) (pda_cons (gC M.c_FEED) (pda_cons (pd_var 2) pda_nil))))))))))
      (pdss_one (pds_ret (pd_tup (pda_cons (pd_var 1) (pda_cons (pd_var 2) pda_nil))))))))
theorem ok_read_of {P : Program} {w : World} {K : PySem.W.Frag} {mg : Str → Option Value} {base : Heap} {k : Nat} {m_record_in : List D → Store → Option (D × Store)} {m_follows : List D → Store → Option (D × Store)} (M : MF w K mg) (F_record_in : Has P w K mg base k "record_in" P_record_in m_record_in) (F_follows : Has P w K mg base k "follows" P_follows m_follows) : Has P w K mg base (k + 1) "read_of" P_read_of (runF N_read_of (ev_read_of m_record_in m_follows) 1) :=
  Has.of M.f_read_of S_read_of (fun _ _ _ _ _ _ us hl => match us, hl with | [_], _ => rfl) (b_read_of M F_record_in F_follows)
theorem okK_read_of {P : Program} {w : World} {K : PySem.W.Frag} {mg : Str → Option Value} {base : Heap} {k : Nat} {m_record_in : List D → Store → Option (D × Store)} {m_follows : List D → Store → Option (D × Store)} (M : MF w K mg) (F_record_in : Has P w K mg base k "record_in" P_record_in m_record_in) (F_follows : Has P w K mg base k "follows" P_follows m_follows) : HasK P w K mg base (k + 1) "read_of" "text" (runF N_read_of (ev_read_of m_record_in m_follows) 1) :=
  HasK.of M.f_read_of S_read_of (fun _ _ _ _ _ _ _ => rfl) (b_read_of M F_record_in F_follows)
/-! want_journal -/
abbrev N_want_journal : List Str := ["value"]
theorem S_want_journal : FnScope N_want_journal P_want_journal (defScope s_want_journal) := ⟨rfl, rfl, rfl, by decide +kernel, rfl, by decide +kernel, by decide +kernel⟩
noncomputable def ev_want_journal  : EvS :=
  (evSeq (evIfS (evOrT (evNotT (evTest (evCall dIsi (evCons (evVar 0) (evCons (evC (.ty "str")) evNil))))) (evTCmp dGt (evCall dLen (evCons (evVar 0) evNil)) (evC (.int (200000)))))
  evNever
  evNx)
  (evRet (evVar 0)))
theorem b_want_journal {P : Program} {w : World} {K : PySem.W.Frag} {mg : Str → Option Value} {base : Heap} {k : Nat}  (M : MF w K mg) (f : Addr) (cdv : Value) (A : Around) (outer : List PySem.Env) (s : Shared) (H : Hp) (E : XK) (hr : Room k (A.deeper (envOfC "want_journal" (defScope s_want_journal) s.heap.objs.size f cdv))) :
    PDSs (cxOf CX0 P w K mg base N_want_journal "want_journal" (defScope s_want_journal) f cdv A outer s H E).nox (defBody s_want_journal) (ev_want_journal ) := by
  have Nd := S_want_journal.nd
  exact (pdss_cons (pds_if (pdt_w (pdw_or (pdt_not (pdt_val (pd_isi M.n_isinstance (pda_cons (pd_var 0) (pda_cons (pd_bty (by rfl) M.n_str bt_str) pda_nil))))) (pdw_or1 (pdt_cmp op_gt dGt_ok (pd_len M.n_len (pda_cons (pd_var 0) pda_nil)) (gC M.c_MOST_SIGNS_journals) (by rfl)))))
      (pdss_one pds_never)
      pdss_nil)
      (pdss_one (pds_ret (pd_var 0))))
theorem ok_want_journal {P : Program} {w : World} {K : PySem.W.Frag} {mg : Str → Option Value} {base : Heap} {k : Nat}  (M : MF w K mg) : Has P w K mg base (k + 1) "want_journal" P_want_journal (runF N_want_journal (ev_want_journal ) 1) :=
  Has.of M.f_want_journal S_want_journal (fun _ _ _ _ _ _ us hl => match us, hl with | [_], _ => rfl) (b_want_journal M )
theorem okK_want_journal {P : Program} {w : World} {K : PySem.W.Frag} {mg : Str → Option Value} {base : Heap} {k : Nat}  (M : MF w K mg) : HasK P w K mg base (k + 1) "want_journal" "value" (runF N_want_journal (ev_want_journal ) 1) :=
  HasK.of M.f_want_journal S_want_journal (fun _ _ _ _ _ _ _ => rfl) (b_want_journal M )
/-! read_journal -/
abbrev N_read_journal : List Str := ["text"]
theorem S_read_journal : FnScope N_read_journal P_read_journal (defScope s_read_journal) := ⟨rfl, rfl, rfl, by decide +kernel, rfl, by decide +kernel, by decide +kernel⟩
noncomputable def ev_read_journal (m_read_of : List D → Store → Option (D × Store)) (m_want_journal : List D → Store → Option (D × Store)) : EvS :=
  (evRet (evCall m_read_of (evCons (evCall m_want_journal (evCons (evVar 0) evNil)) evNil)))
theorem b_read_journal {P : Program} {w : World} {K : PySem.W.Frag} {mg : Str → Option Value} {base : Heap} {k : Nat} {m_read_of : List D → Store → Option (D × Store)} {m_want_journal : List D → Store → Option (D × Store)} (M : MF w K mg) (F_read_of : Has P w K mg base k "read_of" P_read_of m_read_of) (F_want_journal : Has P w K mg base k "want_journal" P_want_journal m_want_journal) (f : Addr) (cdv : Value) (A : Around) (outer : List PySem.Env) (s : Shared) (H : Hp) (E : XK) (hr : Room k (A.deeper (envOfC "read_journal" (defScope s_read_journal) s.heap.objs.size f cdv))) :
    PDSs (cxOf CX0 P w K mg base N_read_journal "read_journal" (defScope s_read_journal) f cdv A outer s H E).nox (defBody s_read_journal) (ev_read_journal m_read_of m_want_journal) := by
  have Nd := S_read_journal.nd
  exact (pdss_one (pds_ret (pd_fn F_read_of hr (by omega) (pda_cons (pd_fn F_want_journal hr (by omega) (pda_cons (pd_var 0) pda_nil)) pda_nil))))
theorem ok_read_journal {P : Program} {w : World} {K : PySem.W.Frag} {mg : Str → Option Value} {base : Heap} {k : Nat} {m_read_of : List D → Store → Option (D × Store)} {m_want_journal : List D → Store → Option (D × Store)} (M : MF w K mg) (F_read_of : Has P w K mg base k "read_of" P_read_of m_read_of) (F_want_journal : Has P w K mg base k "want_journal" P_want_journal m_want_journal) : Has P w K mg base (k + 1) "read_journal" P_read_journal (runF N_read_journal (ev_read_journal m_read_of m_want_journal) 1) :=
  Has.of M.f_read_journal S_read_journal (fun _ _ _ _ _ _ us hl => match us, hl with | [_], _ => rfl) (b_read_journal M F_read_of F_want_journal)
theorem okK_read_journal {P : Program} {w : World} {K : PySem.W.Frag} {mg : Str → Option Value} {base : Heap} {k : Nat} {m_read_of : List D → Store → Option (D × Store)} {m_want_journal : List D → Store → Option (D × Store)} (M : MF w K mg) (F_read_of : Has P w K mg base k "read_of" P_read_of m_read_of) (F_want_journal : Has P w K mg base k "want_journal" P_want_journal m_want_journal) : HasK P w K mg base (k + 1) "read_journal" "text" (runF N_read_journal (ev_read_journal m_read_of m_want_journal) 1) :=
  HasK.of M.f_read_journal S_read_journal (fun _ _ _ _ _ _ _ => rfl) (b_read_journal M F_read_of F_want_journal)
/-! are_records -/
abbrev N_are_records : List Str := ["value"]
theorem S_are_records : FnScope N_are_records P_are_records (defScope s_are_records) := ⟨rfl, rfl, rfl, by decide +kernel, rfl, by decide +kernel, by decide +kernel⟩
noncomputable def ev_are_records (m_are_records_of : List D → Store → Option (D × Store)) : EvS :=
  (evRet (evCall m_are_records_of (evCons (evVar 0) evNil)))
theorem b_are_records {P : Program} {w : World} {K : PySem.W.Frag} {mg : Str → Option Value} {base : Heap} {k : Nat} {m_are_records_of : List D → Store → Option (D × Store)} (M : MF w K mg) (F_are_records_of : Has P w K mg base k "are_records_of" P_are_records_of m_are_records_of) (f : Addr) (cdv : Value) (A : Around) (outer : List PySem.Env) (s : Shared) (H : Hp) (E : XK) (hr : Room k (A.deeper (envOfC "are_records" (defScope s_are_records) s.heap.objs.size f cdv))) :
    PDSs (cxOf CX0 P w K mg base N_are_records "are_records" (defScope s_are_records) f cdv A outer s H E).nox (defBody s_are_records) (ev_are_records m_are_records_of) := by
  have Nd := S_are_records.nd
  exact (pdss_one (pds_ret (pd_fn F_are_records_of hr (by omega) (pda_cons (pd_var 0) pda_nil))))
theorem ok_are_records {P : Program} {w : World} {K : PySem.W.Frag} {mg : Str → Option Value} {base : Heap} {k : Nat} {m_are_records_of : List D → Store → Option (D × Store)} (M : MF w K mg) (F_are_records_of : Has P w K mg base k "are_records_of" P_are_records_of m_are_records_of) : Has P w K mg base (k + 1) "are_records" P_are_records (runF N_are_records (ev_are_records m_are_records_of) 1) :=
  Has.of M.f_are_records S_are_records (fun _ _ _ _ _ _ us hl => match us, hl with | [_], _ => rfl) (b_are_records M F_are_records_of)
theorem okK_are_records {P : Program} {w : World} {K : PySem.W.Frag} {mg : Str → Option Value} {base : Heap} {k : Nat} {m_are_records_of : List D → Store → Option (D × Store)} (M : MF w K mg) (F_are_records_of : Has P w K mg base k "are_records_of" P_are_records_of m_are_records_of) : HasK P w K mg base (k + 1) "are_records" "value" (runF N_are_records (ev_are_records m_are_records_of) 1) :=
  HasK.of M.f_are_records S_are_records (fun _ _ _ _ _ _ _ => rfl) (b_are_records M F_are_records_of)
/-! _law_is_right -/
abbrev N__law_is_right : List Str := ["records", "many", "text", "told", "signs", "due", "number", "record"]
theorem S__law_is_right : FnScope N__law_is_right P__law_is_right (defScope s__law_is_right) := ⟨rfl, rfl, rfl, by decide +kernel, rfl, by decide +kernel, by decide +kernel⟩
noncomputable def ev__law_is_right (m_read_journal : List D → Store → Option (D × Store)) (m_record_line : List D → Store → Option (D × Store)) (m_are_records : List D → Store → Option (D × Store)) (m_journal_text : List D → Store → Option (D × Store)) : EvS :=
  (evSeq (evAsg (evCall m_read_journal (evCons (evVar 2) evNil)) (egTup 2 (egCons (egName 3) (egCons (egName 4) egNil))))
  (evSeq (evAsg (evMeth "str" dJoin (evC (.str "")) (evCons (evComp (eiEnum (evCons (evSl dSl (evVar 0) evONone (evOSome (evVar 1))) evNil)) (egC2 6 7) evYes (evCall m_record_line (evCons (evVar 6) (evCons (evVar 7) evNil))) [6, 7]) evNil)) (egName 5))
  (evRet (evAnd (evCmp (dEqv false) (evVar 3) (evSl dSl (evVar 0) evONone (evOSome (evVar 1)))) (evAnd (evCmp (dEqv false) (evVar 4) (evCall dLen (evCons (evVar 5) evNil))) (evAnd (evCmp (dEqv false) (evSl dSl (evVar 2) evONone (evOSome (evVar 4))) (evVar 5)) (evAnd (evCmp (dIsN false) (evCall m_are_records (evCons (evVar 3) evNil)) (evC (.bl true))) (evCmp (dEqv false) (evCall m_journal_text (evCons (evVar 3) evNil)) (evVar 5)))))))))
theorem b__law_is_right {P : Program} {w : World} {K : PySem.W.Frag} {mg : Str → Option Value} {base : Heap} {k : Nat} {m_read_journal : List D → Store → Option (D × Store)} {m_record_line : List D → Store → Option (D × Store)} {m_are_records : List D → Store → Option (D × Store)} {m_journal_text : List D → Store → Option (D × Store)} (M : MF w K mg) (F_read_journal : Has P w K mg base k "read_journal" P_read_journal m_read_journal) (F_record_line : Has P w K mg base k "record_line" P_record_line m_record_line) (F_are_records : Has P w K mg base k "are_records" P_are_records m_are_records) (F_journal_text : Has P w K mg base k "journal_text" P_journal_text m_journal_text) (f : Addr) (cdv : Value) (A : Around) (outer : List PySem.Env) (s : Shared) (H : Hp) (E : XK) (hr : Room k (A.deeper (envOfC "_law_is_right" (defScope s__law_is_right) s.heap.objs.size f cdv))) :
    PDSs (cxOf CX0 P w K mg base N__law_is_right "_law_is_right" (defScope s__law_is_right) f cdv A outer s H E).nox (defBody s__law_is_right) (ev__law_is_right m_read_journal m_record_line m_are_records m_journal_text) := by
  have Nd := S__law_is_right.nd
  exact (pdss_cons (pds_asg (pd_fn F_read_journal hr (by omega) (pda_cons (pd_var 2) pda_nil)) (pdg_tup (n := 2) rfl (pdgs_cons (pdg_name 3 Nd) (pdgs_cons (pdg_name 4 Nd) pdgs_nil))))
      (pdss_cons (pds_set 5 Nd (pd_join pd_str (pda_cons (pd_lc rfl Nd (pdi_enum (by rfl) M.n_enumerate (pda_cons (pd_slice slA dSl_ok (pd_var 0) pdo_none (pdo_some (pd_var 1))) pda_nil)) (blkOk_by (own := [("number", 6), ("record", 7)]) (by show blkC N__law_is_right (defScope s__law_is_right) _ _ = true; decide +kernel)) (cg_pair 6 7 (by decide)) (fun _ _ _ _ _ => (pg_tup rfl (pgs_cons (pg_name (i := 6) Nd rfl (Or.inl rfl) (.inr rfl)) (pgs_cons (pg_name (i := 7) Nd rfl (Or.inl rfl) (.inr rfl)) pgs_nil)) rfl rfl)) (fun _ _ _ _ _ => pdts_nil) (fun _ _ _ _ _ => (pd_fn F_record_line hr (by omega) (pda_cons (pd_var 6) (pda_cons (pd_var 7) pda_nil))))) pda_nil)))
      (pdss_one (pds_ret (pd_and (pd_cmp (op_eqM hr.units) dEqv_ok (pd_var 3) (pd_slice slA dSl_ok (pd_var 0) pdo_none (pdo_some (pd_var 1))) (by rfl)) (pd_and (pd_cmp (op_eqM hr.units) dEqv_ok (pd_var 4) (pd_len M.n_len (pda_cons (pd_var 5) pda_nil)) (by rfl)) (pd_and (pd_cmp (op_eqM hr.units) dEqv_ok (pd_slice slA dSl_ok (pd_var 2) pdo_none (pdo_some (pd_var 4))) (pd_var 5) (by rfl)) (pd_and (pd_cmp opIsN (dIsN_ok false) (pd_fn F_are_records hr (by omega) (pda_cons (pd_var 3) pda_nil)) pd_bl (by rfl)) (pd_one (pd_cmp (op_eqM hr.units) dEqv_ok (pd_fn F_journal_text hr (by omega) (pda_cons (pd_var 3) pda_nil)) (pd_var 5) (by rfl)))))))))))
theorem ok__law_is_right {P : Program} {w : World} {K : PySem.W.Frag} {mg : Str → Option Value} {base : Heap} {k : Nat} {m_read_journal : List D → Store → Option (D × Store)} {m_record_line : List D → Store → Option (D × Store)} {m_are_records : List D → Store → Option (D × Store)} {m_journal_text : List D → Store → Option (D × Store)} (M : MF w K mg) (F_read_journal : Has P w K mg base k "read_journal" P_read_journal m_read_journal) (F_record_line : Has P w K mg base k "record_line" P_record_line m_record_line) (F_are_records : Has P w K mg base k "are_records" P_are_records m_are_records) (F_journal_text : Has P w K mg base k "journal_text" P_journal_text m_journal_text) : Has P w K mg base (k + 1) "_law_is_right" P__law_is_right (runF N__law_is_right (ev__law_is_right m_read_journal m_record_line m_are_records m_journal_text) 3) :=
  Has.of M.f__law_is_right S__law_is_right (fun _ _ _ _ _ _ us hl => match us, hl with | [_, _, _], _ => rfl) (b__law_is_right M F_read_journal F_record_line F_are_records F_journal_text)
/-! sum_of -/
abbrev N_sum_of : List Str := ["text"]
theorem S_sum_of : FnScope N_sum_of P_sum_of (defScope s_sum_of) := ⟨rfl, rfl, rfl, by decide +kernel, rfl, by decide +kernel, by decide +kernel⟩
noncomputable def ev_sum_of (m_sum_of_signs : List D → Store → Option (D × Store)) (m_want_journal : List D → Store → Option (D × Store)) : EvS :=
  (evRet (evCall m_sum_of_signs (evCons (evCall m_want_journal (evCons (evVar 0) evNil)) evNil)))
theorem b_sum_of {P : Program} {w : World} {K : PySem.W.Frag} {mg : Str → Option Value} {base : Heap} {k : Nat} {m_sum_of_signs : List D → Store → Option (D × Store)} {m_want_journal : List D → Store → Option (D × Store)} (M : MF w K mg) (F_sum_of_signs : Has P w K mg base k "sum_of_signs" P_sum_of_signs m_sum_of_signs) (F_want_journal : Has P w K mg base k "want_journal" P_want_journal m_want_journal) (f : Addr) (cdv : Value) (A : Around) (outer : List PySem.Env) (s : Shared) (H : Hp) (E : XK) (hr : Room k (A.deeper (envOfC "sum_of" (defScope s_sum_of) s.heap.objs.size f cdv))) :
    PDSs (cxOf CX0 P w K mg base N_sum_of "sum_of" (defScope s_sum_of) f cdv A outer s H E).nox (defBody s_sum_of) (ev_sum_of m_sum_of_signs m_want_journal) := by
  have Nd := S_sum_of.nd
  exact (pdss_one (pds_ret (pd_fn F_sum_of_signs hr (by omega) (pda_cons (pd_fn F_want_journal hr (by omega) (pda_cons (pd_var 0) pda_nil)) pda_nil))))
theorem ok_sum_of {P : Program} {w : World} {K : PySem.W.Frag} {mg : Str → Option Value} {base : Heap} {k : Nat} {m_sum_of_signs : List D → Store → Option (D × Store)} {m_want_journal : List D → Store → Option (D × Store)} (M : MF w K mg) (F_sum_of_signs : Has P w K mg base k "sum_of_signs" P_sum_of_signs m_sum_of_signs) (F_want_journal : Has P w K mg base k "want_journal" P_want_journal m_want_journal) : Has P w K mg base (k + 1) "sum_of" P_sum_of (runF N_sum_of (ev_sum_of m_sum_of_signs m_want_journal) 1) :=
  Has.of M.f_sum_of S_sum_of (fun _ _ _ _ _ _ us hl => match us, hl with | [_], _ => rfl) (b_sum_of M F_sum_of_signs F_want_journal)
theorem okK_sum_of {P : Program} {w : World} {K : PySem.W.Frag} {mg : Str → Option Value} {base : Heap} {k : Nat} {m_sum_of_signs : List D → Store → Option (D × Store)} {m_want_journal : List D → Store → Option (D × Store)} (M : MF w K mg) (F_sum_of_signs : Has P w K mg base k "sum_of_signs" P_sum_of_signs m_sum_of_signs) (F_want_journal : Has P w K mg base k "want_journal" P_want_journal m_want_journal) : HasK P w K mg base (k + 1) "sum_of" "text" (runF N_sum_of (ev_sum_of m_sum_of_signs m_want_journal) 1) :=
  HasK.of M.f_sum_of S_sum_of (fun _ _ _ _ _ _ _ => rfl) (b_sum_of M F_sum_of_signs F_want_journal)
/-! law -/
abbrev N_law : List Str := ["script", "pot", "records", "lines", "text", "ends", "at", "line", "cut", "spot", "sign", "whole", "start", "blank", "told", "signs", "turn", "one", "other", "late", "number", "record", "end"]
theorem S_law : FnScope N_law P_law (defScope s_law) := ⟨rfl, rfl, rfl, by decide +kernel, rfl, by decide +kernel, by decide +kernel⟩
noncomputable def ev_law (m__law_pot : List D → Store → Option (D × Store)) (m__law_records : List D → Store → Option (D × Store)) (m__law_pick : List D → Store → Option (D × Store)) (m_record_line : List D → Store → Option (D × Store)) (m_journal_text : List D → Store → Option (D × Store)) (m__law_draw : List D → Store → Option (D × Store)) (m__law_is_right : List D → Store → Option (D × Store)) (m_read_journal : List D → Store → Option (D × Store)) (m_sum_of : List D → Store → Option (D × Store)) (m_read_journal_kw : List D → Store → Option (D × Store)) : EvS :=
  (evSeq (evAsg (evCall m__law_pot (evCons (evVar 0) (evCons (evC (.int 0)) evNil))) (egName 1))
  (evSeq (evAsg (evCall m__law_records (evCons (evVar 1) (evCons (evCall m__law_pick (evCons (evVar 1) (evCons (evLst (evCons (evC (.int 3)) (evCons (evC (.int 8)) (evCons (evC (.int 30)) evNil)))) evNil))) evNil))) (egName 2))
  (evSeq (evAsg (evComp (eiEnum (evCons (evVar 2) evNil)) (egC2 20 21) evYes (evCall m_record_line (evCons (evVar 20) (evCons (evVar 21) evNil))) [20, 21]) (egName 3))
  (evSeq (evAsg (evTup (evCons (evCall m_journal_text (evCons (evVar 2) evNil)) (evCons (evLst evNil) (evCons (evC (.int 0)) evNil)))) (egTup 3 (egCons (egName 4) (egCons (egName 5) (egCons (egName 6) egNil)))))
  (evSeq (evFor (eiSeq (evVar 3)) (egName 7)
  (evSeq (evAsg (evBin dAdd (evVar 6) (evCall dLen (evCons (evVar 7) evNil))) (egName 6))
  (evDrop (evMeth "list" dAppend (evVar 5) (evCons (evVar 6) evNil)))))
  (evSeq (evIfS (evTCmp (dEqv true) (evVar 4) (evMeth "str" dJoin (evC (.str "")) (evCons (evVar 3) evNil)))
  (evRet (evC (.bl false)))
  evNx)
  (evSeq (evFor (eiRange (evCons (evC (.int 12)) evNil)) (egName 16)
  (evSeq (evAsg (evCall m__law_draw (evCons (evVar 1) (evCons (evBin dAdd (evCall dLen (evCons (evVar 4) evNil)) (evC (.int 1))) evNil))) (egName 8))
  (evSeq (evIfS (evNotT (evTest (evCall m__law_is_right (evCons (evVar 2) (evCons (evCall dLen (evCons (evComp (eiSeq (evVar 5)) (egC1 22) (evTCmp dLe (evVar 22) (evVar 8)) (evVar 22) [22]) evNil)) (evCons (evSl dSl (evVar 4) evONone (evOSome (evVar 8))) evNil))))))
  (evRet (evC (.bl false)))
  evNx)
  (evSeq (evAsg (evCall m__law_draw (evCons (evVar 1) (evCons (evCall dLen (evCons (evVar 4) evNil)) evNil))) (egName 9))
  (evSeq (evAsg (evCall m__law_pick (evCons (evVar 1) (evCons (evComp (eiStr (evC (.str "0123456789 abtfunFipc;-X~"))) (egC1 17) (evTCmp (dEqv true) (evVar 17) (evBin dIx (evVar 4) (evVar 9))) (evVar 17) [17]) evNil))) (egName 10))
  (evSeq (evAsg (evCall dLen (evCons (evComp (eiSeq (evVar 5)) (egC1 22) (evTCmp dLe (evVar 22) (evVar 9)) (evVar 22) [22]) evNil)) (egName 11))
  (evSeq (evAsg (evIf (evTCmp dGt (evVar 11) (evC (.int 0))) (evBin dIx (evVar 5) (evBin dSub (evVar 11) (evC (.int 1)))) (evC (.int 0))) (egName 12))
  (evSeq (evAsg (evBin dSub (evBin dSub (evBin dAdd (evVar 12) (evCall dLen (evCons (evBin dIx (evVar 3) (evVar 11)) evNil))) (evCall dLen (evCons (evBin dIx (evMeth "str" dSplit (evBin dIx (evVar 3) (evVar 11)) (evCons (evC (.str " ")) evNil)) (evUn dNeg (evC (.int 1)))) evNil))) (evC (.int 1))) (egName 13))
  (evSeq (evIfS (evAndT (evTCmp (dEqv true) (evBin dIx (evVar 4) (evVar 9)) (evC (.str "\n"))) (evAndT (evTCmp (dEqv true) (evVar 9) (evVar 13)) (evAndT (evOrT (evTCmp dLt (evVar 9) (evVar 13)) (evTCmp (dEqv true) (evVar 10) (evC (.str " ")))) (evNotT (evTest (evCall m__law_is_right (evCons (evVar 2) (evCons (evVar 11) (evCons (evBin dAdd (evBin dAdd (evSl dSl (evVar 4) evONone (evOSome (evVar 9))) (evVar 10)) (evSl dSl (evVar 4) (evOSome (evBin dAdd (evVar 9) (evC (.int 1)))) evONone)) evNil)))))))))
  (evRet (evC (.bl false)))
  evNx)
  (evSeq (evAsg (evCall m_read_journal (evCons (evBin dAdd (evSl dSl (evVar 4) evONone (evOSome (evVar 9))) (evSl dSl (evVar 4) (evOSome (evBin dAdd (evVar 9) (evC (.int 1)))) evONone)) evNil)) (egTup 2 (egCons (egName 14) (egCons (egName 15) egNil))))
  (evSeq (evIfS (evOrT (evTCmp (dEqv true) (evSl dSl (evVar 14) evONone (evOSome (evVar 11))) (evSl dSl (evVar 2) evONone (evOSome (evVar 11)))) (evAndT (evTCmp (dEqv true) (evBin dIx (evVar 4) (evVar 9)) (evC (.str "\n"))) (evAndT (evTCmp (dEqv true) (evVar 9) (evVar 13)) (evTCmp dGt (evCall dLen (evCons (evVar 14) evNil)) (evVar 11)))))
  (evRet (evC (.bl false)))
  evNx)
  (evSeq (evAsg (evCall m_read_journal_kw (evCons (evBin dAdd (evBin dAdd (evSl dSl (evVar 4) evONone (evOSome (evVar 9))) (evVar 10)) (evSl dSl (evVar 4) (evOSome (evVar 9)) evONone)) evNil)) (egTup 2 (egCons (egName 14) (egCons (egName 15) egNil))))
  (evIfS (evTCmp (dEqv true) (evSl dSl (evVar 14) evONone (evOSome (evVar 11))) (evSl dSl (evVar 2) evONone (evOSome (evVar 11))))
  (evRet (evC (.bl false)))
  evNx)))))))))))))
  (evSeq (evAsg (evTup (evCons (evCall m__law_draw (evCons (evVar 1) (evCons (evCall dLen (evCons (evVar 3) evNil)) evNil))) (evCons (evCall m__law_draw (evCons (evVar 1) (evCons (evCall dLen (evCons (evVar 3) evNil)) evNil))) evNil))) (egTup 2 (egCons (egName 17) (egCons (egName 18) egNil))))
  (evSeq (evIfS (evAndT (evTCmp (dEqv true) (evVar 17) (evVar 18)) (evNotT (evTest (evCall m__law_is_right (evCons (evVar 2) (evCons (evCall dMin (evCons (evVar 17) (evCons (evVar 18) evNil))) (evCons (evMeth "str" dJoin (evC (.str "")) (evCons (evComp (eiEnum (evCons (evVar 3) evNil)) (egC2 20 7) evYes (evIf (evTCmp (dEqv false) (evVar 20) (evVar 17)) (evBin dIx (evVar 3) (evVar 18)) (evIf (evTCmp (dEqv false) (evVar 20) (evVar 18)) (evBin dIx (evVar 3) (evVar 17)) (evVar 7))) [20, 7]) evNil)) evNil)))))))
  (evRet (evC (.bl false)))
  evNx)
  (evSeq (evIfS (evOrT (evNotT (evTest (evCall m__law_is_right (evCons (evVar 2) (evCons (evBin dAdd (evVar 17) (evC (.int 1))) (evCons (evMeth "str" dJoin (evC (.str "")) (evCons (evBin dAdd (evSl dSl (evVar 3) evONone (evOSome (evBin dAdd (evVar 17) (evC (.int 1))))) (evSl dSl (evVar 3) (evOSome (evVar 17)) evONone)) evNil)) evNil)))))) (evNotT (evTest (evCall m__law_is_right (evCons (evVar 2) (evCons (evVar 17) (evCons (evMeth "str" dJoin (evC (.str "")) (evCons (evBin dAdd (evSl dSl (evVar 3) evONone (evOSome (evVar 17))) (evSl dSl (evVar 3) (evOSome (evBin dAdd (evVar 17) (evC (.int 1)))) evONone)) evNil)) evNil)))))))
  (evRet (evC (.bl false)))
  evNx)
  (evSeq (evAsg (evCall m_record_line (evCons (evCall dLen (evCons (evVar 2) evNil)) (evCons (evTup (evCons (evC (.str "inputs")) (evCons (evC (.str "x")) evNil))) evNil))) (egName 19))
  (evSeq (evIfS (evOrT (evNotT (evTest (evCall m__law_is_right (evCons (evVar 2) (evCons (evCall dLen (evCons (evVar 2) evNil)) (evCons (evBin dAdd (evVar 4) (evVar 19)) evNil)))))) (evNotT (evTest (evCall m__law_is_right (evCons (evVar 2) (evCons (evCall dLen (evCons (evVar 2) evNil)) (evCons (evBin dAdd (evBin dAdd (evVar 4) (evC (.str "\n"))) (evVar 19)) evNil)))))))
  (evRet (evC (.bl false)))
  evNx)
  (evRet (evAnd (evCmp (dEqv false) (evCall m_sum_of (evCons (evC (.str "")) evNil)) (evC (.int 1))) (evCmp (dEqv false) (evCall m_read_journal (evCons (evC (.str "\n")) evNil)) (evTup (evCons (evLst evNil) (evCons (evC (.int 0)) evNil))))))))))))))))))
theorem b_law {P : Program} {w : World} {K : PySem.W.Frag} {mg : Str → Option Value} {base : Heap} {k : Nat} {m__law_pot : List D → Store → Option (D × Store)} {m__law_records : List D → Store → Option (D × Store)} {m__law_pick : List D → Store → Option (D × Store)} {m_record_line : List D → Store → Option (D × Store)} {m_journal_text : List D → Store → Option (D × Store)} {m__law_draw : List D → Store → Option (D × Store)} {m__law_is_right : List D → Store → Option (D × Store)} {m_read_journal : List D → Store → Option (D × Store)} {m_sum_of : List D → Store → Option (D × Store)} {m_read_journal_kw : List D → Store → Option (D × Store)} (M : MF w K mg) (F__law_pot : Has P w K mg base k "_law_pot" P__law_pot m__law_pot) (F__law_records : Has P w K mg base k "_law_records" P__law_records m__law_records) (F__law_pick : Has P w K mg base k "_law_pick" P__law_pick m__law_pick) (F_record_line : Has P w K mg base k "record_line" P_record_line m_record_line) (F_journal_text : Has P w K mg base k "journal_text" P_journal_text m_journal_text) (F__law_draw : Has P w K mg base k "_law_draw" P__law_draw m__law_draw) (F__law_is_right : Has P w K mg base k "_law_is_right" P__law_is_right m__law_is_right) (F_read_journal : Has P w K mg base k "read_journal" P_read_journal m_read_journal) (F_sum_of : Has P w K mg base k "sum_of" P_sum_of m_sum_of) (F_read_journal_kw : HasK P w K mg base k "read_journal" "text" m_read_journal_kw) (f : Addr) (cdv : Value) (A : Around) (outer : List PySem.Env) (s : Shared) (H : Hp) (E : XK) (hr : Room k (A.deeper (envOfC "law" (defScope s_law) s.heap.objs.size f cdv))) :
    PDSs (cxOf CX0 P w K mg base N_law "law" (defScope s_law) f cdv A outer s H E).nox (defBody s_law) (ev_law m__law_pot m__law_records m__law_pick m_record_line m_journal_text m__law_draw m__law_is_right m_read_journal m_sum_of m_read_journal_kw) := by
  have Nd := S_law.nd
  exact (pdss_cons (pds_set 1 Nd (pd_fn F__law_pot hr (by omega) (pda_cons (pd_var 0) (pda_cons pd_int pda_nil))))
      (pdss_cons (pds_set 2 Nd (pd_fn F__law_records hr (by omega) (pda_cons (pd_var 1) (pda_cons (pd_fn F__law_pick hr (by omega) (pda_cons (pd_var 1) (pda_cons (pd_lst (pda_cons pd_int (pda_cons pd_int (pda_cons pd_int pda_nil)))) pda_nil))) pda_nil))))
      (pdss_cons (pds_set 3 Nd (pd_lc rfl Nd (pdi_enum (by rfl) M.n_enumerate (pda_cons (pd_var 2) pda_nil)) (blkOk_by (own := [("number", 20), ("record", 21)]) (by show blkC N_law (defScope s_law) _ _ = true; decide +kernel)) (cg_pair 20 21 (by decide)) (fun _ _ _ _ _ => (pg_tup rfl (pgs_cons (pg_name (i := 20) Nd rfl (Or.inl rfl) (.inr rfl)) (pgs_cons (pg_name (i := 21) Nd rfl (Or.inl rfl) (.inr rfl)) pgs_nil)) rfl rfl)) (fun _ _ _ _ _ => pdts_nil) (fun _ _ _ _ _ => (pd_fn F_record_line hr (by omega) (pda_cons (pd_var 20) (pda_cons (pd_var 21) pda_nil))))))
      (pdss_cons (pds_asg (pd_tup (pda_cons (pd_fn F_journal_text hr (by omega) (pda_cons (pd_var 2) pda_nil)) (pda_cons (pd_lst pda_nil) (pda_cons pd_int pda_nil)))) (pdg_tup (n := 3) rfl (pdgs_cons (pdg_name 4 Nd) (pdgs_cons (pdg_name 5 Nd) (pdgs_cons (pdg_name 6 Nd) pdgs_nil)))))
      (pdss_cons (pds_for PassesOwn.never rfl (pdi_loc (pd_var 3)) (pdg_name 7 Nd)
      (pdss_cons (pds_set 6 Nd (pd_bin opAdd dAdd_ok (pd_var 6) (pd_len M.n_len (pda_cons (pd_var 7) pda_nil))))
      (pdss_one (pds_expr (pd_append (pd_var 5) (pda_cons (pd_var 6) pda_nil))))))
      (pdss_cons (pds_if (pdt_cmp (op_neM hr.units) dEqv_ok (pd_var 4) (pd_join pd_str (pda_cons (pd_var 3) pda_nil)) (by rfl))
      (pdss_one (pds_ret pd_bl))
      pdss_nil)
      (pdss_cons (pds_for PassesOwn.never rfl (pdi_range (by rfl) M.n_range (pda_cons pd_int pda_nil)) (pdg_name 16 Nd)
      (pdss_cons (pds_set 8 Nd (pd_fn F__law_draw hr (by omega) (pda_cons (pd_var 1) (pda_cons (pd_bin opAdd dAdd_ok (pd_len M.n_len (pda_cons (pd_var 4) pda_nil)) pd_int) pda_nil))))
      (pdss_cons (pds_if (pdt_not (pdt_val (pd_fn F__law_is_right hr (by omega) (pda_cons (pd_var 2) (pda_cons (pd_len M.n_len (pda_cons (pd_lc rfl Nd (pdi_loc (pd_var 5)) (blkOk_by (own := [("end", 22)]) (by show blkC N_law (defScope s_law) _ _ = true; decide +kernel)) (cg_name 22) (fun _ _ _ _ _ => (pg_name (i := 22) Nd rfl (Or.inl rfl) (.inr rfl))) (fun _ _ _ _ _ => (pdts_one (pdt_cmp opLe dLe_ok (pd_var 22) (pd_var 8) (by rfl)))) (fun _ _ _ _ _ => (pd_var 22))) pda_nil)) (pda_cons (pd_slice slA dSl_ok (pd_var 4) pdo_none (pdo_some (pd_var 8))) pda_nil))))))
      (pdss_one (pds_ret pd_bl))
      pdss_nil)
      (pdss_cons (pds_set 9 Nd (pd_fn F__law_draw hr (by omega) (pda_cons (pd_var 1) (pda_cons (pd_len M.n_len (pda_cons (pd_var 4) pda_nil)) pda_nil))))
      (pdss_cons (pds_set 10 Nd (pd_fn F__law_pick hr (by omega) (pda_cons (pd_var 1) (pda_cons (pd_lc rfl Nd (pdi_str pd_str) (blkOk_by (own := [("one", 17)]) (by show blkC N_law (defScope s_law) _ _ = true; decide +kernel)) (cg_name 17) (fun _ _ _ _ _ => (pg_name (i := 17) Nd rfl (Or.inl rfl) (.inr rfl))) (fun _ _ _ _ _ => (pdts_one (pdt_cmp (op_neM hr.units) dEqv_ok (pd_var 17) (pd_ix ix_seq dIx_ok (pd_var 4) (pd_var 9) (fun _ _ => rfl)) (by rfl)))) (fun _ _ _ _ _ => (pd_var 17))) pda_nil))))
      (pdss_cons (pds_set 11 Nd (pd_len M.n_len (pda_cons (pd_lc rfl Nd (pdi_loc (pd_var 5)) (blkOk_by (own := [("end", 22)]) (by show blkC N_law (defScope s_law) _ _ = true; decide +kernel)) (cg_name 22) (fun _ _ _ _ _ => (pg_name (i := 22) Nd rfl (Or.inl rfl) (.inr rfl))) (fun _ _ _ _ _ => (pdts_one (pdt_cmp opLe dLe_ok (pd_var 22) (pd_var 9) (by rfl)))) (fun _ _ _ _ _ => (pd_var 22))) pda_nil)))
      (pdss_cons (pds_set 12 Nd (pd_if (pdt_cmp op_gt dGt_ok (pd_var 11) pd_int (by rfl)) (pd_ix ix_seq dIx_ok (pd_var 5) (pd_bin op_sub dSub_ok (pd_var 11) pd_int) (fun _ _ => rfl)) pd_int))
      (pdss_cons (pds_set 13 Nd (pd_bin op_sub dSub_ok (pd_bin op_sub dSub_ok (pd_bin opAdd dAdd_ok (pd_var 12) (pd_len M.n_len (pda_cons (pd_ix ix_seq dIx_ok (pd_var 3) (pd_var 11) (fun _ _ => rfl)) pda_nil))) (pd_len M.n_len (pda_cons (pd_ix ix_seq dIx_ok (pd_split (pd_ix ix_seq dIx_ok (pd_var 3) (pd_var 11) (fun _ _ => rfl)) (pda_cons pd_str pda_nil)) (pd_un un_neg dNeg_ok pd_int) (fun _ _ => rfl)) pda_nil))) pd_int))
      (pdss_cons (pds_if (pdt_w (pdw_and (pdt_cmp (op_neM hr.units) dEqv_ok (pd_ix ix_seq dIx_ok (pd_var 4) (pd_var 9) (fun _ _ => rfl)) pd_str (by rfl)) (pdw_and (pdt_cmp (op_neM hr.units) dEqv_ok (pd_var 9) (pd_var 13) (by rfl)) (pdw_and (pdt_w (pdw_or (pdt_cmp op_lt dLt_ok (pd_var 9) (pd_var 13) (by rfl)) (pdw_or1 (pdt_cmp (op_neM hr.units) dEqv_ok (pd_var 10) pd_str (by rfl))))) (pdw_and1 (pdt_not (pdt_val (pd_fn F__law_is_right hr (by omega) (pda_cons (pd_var 2) (pda_cons (pd_var 11) (pda_cons (pd_bin opAdd dAdd_ok (pd_bin opAdd dAdd_ok (pd_slice slA dSl_ok (pd_var 4) pdo_none (pdo_some (pd_var 9))) (pd_var 10)) (pd_slice slA dSl_ok (pd_var 4) (pdo_some (pd_bin opAdd dAdd_ok (pd_var 9) pd_int)) pdo_none)) pda_nil)))))))))))
      (pdss_one (pds_ret pd_bl))
      pdss_nil)
      (pdss_cons (pds_asg (pd_fn F_read_journal hr (by omega) (pda_cons (pd_bin opAdd dAdd_ok (pd_slice slA dSl_ok (pd_var 4) pdo_none (pdo_some (pd_var 9))) (pd_slice slA dSl_ok (pd_var 4) (pdo_some (pd_bin opAdd dAdd_ok (pd_var 9) pd_int)) pdo_none)) pda_nil)) (pdg_tup (n := 2) rfl (pdgs_cons (pdg_name 14 Nd) (pdgs_cons (pdg_name 15 Nd) pdgs_nil))))
      (pdss_cons (pds_if (pdt_w (pdw_or (pdt_cmp (op_neM hr.units) dEqv_ok (pd_slice slA dSl_ok (pd_var 14) pdo_none (pdo_some (pd_var 11))) (pd_slice slA dSl_ok (pd_var 2) pdo_none (pdo_some (pd_var 11))) (by rfl)) (pdw_or1 (pdt_w (pdw_and (pdt_cmp (op_neM hr.units) dEqv_ok (pd_ix ix_seq dIx_ok (pd_var 4) (pd_var 9) (fun _ _ => rfl)) pd_str (by rfl)) (pdw_and (pdt_cmp (op_neM hr.units) dEqv_ok (pd_var 9) (pd_var 13) (by rfl)) (pdw_and1 (pdt_cmp op_gt dGt_ok (pd_len M.n_len (pda_cons (pd_var 14) pda_nil)) (pd_var 11) (by rfl)))))))))
      (pdss_one (pds_ret pd_bl))
      pdss_nil)
      (pdss_cons (pds_asg (pd_fnK F_read_journal_kw hr (by omega) (pd_bin opAdd dAdd_ok (pd_bin opAdd dAdd_ok (pd_slice slA dSl_ok (pd_var 4) pdo_none (pdo_some (pd_var 9))) (pd_var 10)) (pd_slice slA dSl_ok (pd_var 4) (pdo_some (pd_var 9)) pdo_none))) (pdg_tup (n := 2) rfl (pdgs_cons (pdg_name 14 Nd) (pdgs_cons (pdg_name 15 Nd) pdgs_nil))))
      (pdss_one (pds_if (pdt_cmp (op_neM hr.units) dEqv_ok (pd_slice slA dSl_ok (pd_var 14) pdo_none (pdo_some (pd_var 11))) (pd_slice slA dSl_ok (pd_var 2) pdo_none (pdo_some (pd_var 11))) (by rfl))
      (pdss_one (pds_ret pd_bl))
      pdss_nil))))))))))))))
      (pdss_cons (pds_asg (pd_tup (pda_cons (pd_fn F__law_draw hr (by omega) (pda_cons (pd_var 1) (pda_cons (pd_len M.n_len (pda_cons (pd_var 3) pda_nil)) pda_nil))) (pda_cons (pd_fn F__law_draw hr (by omega) (pda_cons (pd_var 1) (pda_cons (pd_len M.n_len (pda_cons (pd_var 3) pda_nil)) pda_nil))) pda_nil))) (pdg_tup (n := 2) rfl (pdgs_cons (pdg_name 17 Nd) (pdgs_cons (pdg_name 18 Nd) pdgs_nil))))
      (pdss_cons (pds_if (pdt_w (pdw_and (pdt_cmp (op_neM hr.units) dEqv_ok (pd_var 17) (pd_var 18) (by rfl)) (pdw_and1 (pdt_not (pdt_val (pd_fn F__law_is_right hr (by omega) (pda_cons (pd_var 2) (pda_cons (pd_min rfl M.n_min (pda_cons (pd_var 17) (pda_cons (pd_var 18) pda_nil))) (pda_cons (pd_join pd_str (pda_cons (pd_lc rfl Nd (pdi_enum (by rfl) M.n_enumerate (pda_cons (pd_var 3) pda_nil)) (blkOk_by (own := [("number", 20), ("line", 7)]) (by show blkC N_law (defScope s_law) _ _ = true; decide +kernel)) (cg_pair 20 7 (by decide)) (fun _ _ _ _ _ => (pg_tup rfl (pgs_cons (pg_name (i := 20) Nd rfl (Or.inl rfl) (.inr rfl)) (pgs_cons (pg_name (i := 7) Nd rfl (Or.inl rfl) (.inr rfl)) pgs_nil)) rfl rfl)) (fun _ _ _ _ _ => pdts_nil) (fun _ _ _ _ _ => (pd_if (pdt_cmp (op_eqM hr.units) dEqv_ok (pd_var 20) (pd_var 17) (by rfl)) (pd_ix ix_seq dIx_ok (pd_var 3) (pd_var 18) (fun _ _ => rfl)) (pd_if (pdt_cmp (op_eqM hr.units) dEqv_ok (pd_var 20) (pd_var 18) (by rfl)) (pd_ix ix_seq dIx_ok (pd_var 3) (pd_var 17) (fun _ _ => rfl)) (pd_var 7))))) pda_nil)) pda_nil)))))))))
      (pdss_one (pds_ret pd_bl))
      pdss_nil)
      (pdss_cons (pds_if (pdt_w (pdw_or (pdt_not (pdt_val (pd_fn F__law_is_right hr (by omega) (pda_cons (pd_var 2) (pda_cons (pd_bin opAdd dAdd_ok (pd_var 17) pd_int) (pda_cons (pd_join pd_str (pda_cons (pd_bin opAdd dAdd_ok (pd_slice slA dSl_ok (pd_var 3) pdo_none (pdo_some (pd_bin opAdd dAdd_ok (pd_var 17) pd_int))) (pd_slice slA dSl_ok (pd_var 3) (pdo_some (pd_var 17)) pdo_none)) pda_nil)) pda_nil)))))) (pdw_or1 (pdt_not (pdt_val (pd_fn F__law_is_right hr (by omega) (pda_cons (pd_var 2) (pda_cons (pd_var 17) (pda_cons (pd_join pd_str (pda_cons (pd_bin opAdd dAdd_ok (pd_slice slA dSl_ok (pd_var 3) pdo_none (pdo_some (pd_var 17))) (pd_slice slA dSl_ok (pd_var 3) (pdo_some (pd_bin opAdd dAdd_ok (pd_var 17) pd_int)) pdo_none)) pda_nil)) pda_nil)))))))))
      (pdss_one (pds_ret pd_bl))
      pdss_nil)
      (pdss_cons (pds_set 19 Nd (pd_fn F_record_line hr (by omega) (pda_cons (pd_len M.n_len (pda_cons (pd_var 2) pda_nil)) (pda_cons (pd_tup (pda_cons pd_str (pda_cons pd_str pda_nil))) pda_nil))))
      (pdss_cons (pds_if (pdt_w (pdw_or (pdt_not (pdt_val (pd_fn F__law_is_right hr (by omega) (pda_cons (pd_var 2) (pda_cons (pd_len M.n_len (pda_cons (pd_var 2) pda_nil)) (pda_cons (pd_bin opAdd dAdd_ok (pd_var 4) (pd_var 19)) pda_nil)))))) (pdw_or1 (pdt_not (pdt_val (pd_fn F__law_is_right hr (by omega) (pda_cons (pd_var 2) (pda_cons (pd_len M.n_len (pda_cons (pd_var 2) pda_nil)) (pda_cons (pd_bin opAdd dAdd_ok (pd_bin opAdd dAdd_ok (pd_var 4) pd_str) (pd_var 19)) pda_nil)))))))))
      (pdss_one (pds_ret pd_bl))
      pdss_nil)
      (pdss_one (pds_ret (pd_and (pd_cmp (op_eqM hr.units) dEqv_ok (pd_fn F_sum_of hr (by omega) (pda_cons pd_str pda_nil)) pd_int (by rfl)) (pd_one (pd_cmp (op_eqM hr.units) dEqv_ok (pd_fn F_read_journal hr (by omega) (pda_cons pd_str pda_nil)) (pd_tup (pda_cons (pd_lst pda_nil) (pda_cons pd_int pda_nil))) (by rfl))))))))))))))))))
theorem ok_law {P : Program} {w : World} {K : PySem.W.Frag} {mg : Str → Option Value} {base : Heap} {k : Nat} {m__law_pot : List D → Store → Option (D × Store)} {m__law_records : List D → Store → Option (D × Store)} {m__law_pick : List D → Store → Option (D × Store)} {m_record_line : List D → Store → Option (D × Store)} {m_journal_text : List D → Store → Option (D × Store)} {m__law_draw : List D → Store → Option (D × Store)} {m__law_is_right : List D → Store → Option (D × Store)} {m_read_journal : List D → Store → Option (D × Store)} {m_sum_of : List D → Store → Option (D × Store)} {m_read_journal_kw : List D → Store → Option (D × Store)} (M : MF w K mg) (F__law_pot : Has P w K mg base k "_law_pot" P__law_pot m__law_pot) (F__law_records : Has P w K mg base k "_law_records" P__law_records m__law_records) (F__law_pick : Has P w K mg base k "_law_pick" P__law_pick m__law_pick) (F_record_line : Has P w K mg base k "record_line" P_record_line m_record_line) (F_journal_text : Has P w K mg base k "journal_text" P_journal_text m_journal_text) (F__law_draw : Has P w K mg base k "_law_draw" P__law_draw m__law_draw) (F__law_is_right : Has P w K mg base k "_law_is_right" P__law_is_right m__law_is_right) (F_read_journal : Has P w K mg base k "read_journal" P_read_journal m_read_journal) (F_sum_of : Has P w K mg base k "sum_of" P_sum_of m_sum_of) (F_read_journal_kw : HasK P w K mg base k "read_journal" "text" m_read_journal_kw) : Has P w K mg base (k + 1) "law" P_law (runF N_law (ev_law m__law_pot m__law_records m__law_pick m_record_line m_journal_text m__law_draw m__law_is_right m_read_journal m_sum_of m_read_journal_kw) 1) :=
  Has.of M.f_law S_law (fun _ _ _ _ _ _ us hl => match us, hl with | [_], _ => rfl) (b_law M F__law_pot F__law_records F__law_pick F_record_line F_journal_text F__law_draw F__law_is_right F_read_journal F_sum_of F_read_journal_kw)
theorem okK_law {P : Program} {w : World} {K : PySem.W.Frag} {mg : Str → Option Value} {base : Heap} {k : Nat} {m__law_pot : List D → Store → Option (D × Store)} {m__law_records : List D → Store → Option (D × Store)} {m__law_pick : List D → Store → Option (D × Store)} {m_record_line : List D → Store → Option (D × Store)} {m_journal_text : List D → Store → Option (D × Store)} {m__law_draw : List D → Store → Option (D × Store)} {m__law_is_right : List D → Store → Option (D × Store)} {m_read_journal : List D → Store → Option (D × Store)} {m_sum_of : List D → Store → Option (D × Store)} {m_read_journal_kw : List D → Store → Option (D × Store)} (M : MF w K mg) (F__law_pot : Has P w K mg base k "_law_pot" P__law_pot m__law_pot) (F__law_records : Has P w K mg base k "_law_records" P__law_records m__law_records) (F__law_pick : Has P w K mg base k "_law_pick" P__law_pick m__law_pick) (F_record_line : Has P w K mg base k "record_line" P_record_line m_record_line) (F_journal_text : Has P w K mg base k "journal_text" P_journal_text m_journal_text) (F__law_draw : Has P w K mg base k "_law_draw" P__law_draw m__law_draw) (F__law_is_right : Has P w K mg base k "_law_is_right" P__law_is_right m__law_is_right) (F_read_journal : Has P w K mg base k "read_journal" P_read_journal m_read_journal) (F_sum_of : Has P w K mg base k "sum_of" P_sum_of m_sum_of) (F_read_journal_kw : HasK P w K mg base k "read_journal" "text" m_read_journal_kw) : HasK P w K mg base (k + 1) "law" "script" (runF N_law (ev_law m__law_pot m__law_records m__law_pick m_record_line m_journal_text m__law_draw m__law_is_right m_read_journal m_sum_of m_read_journal_kw) 1) :=
  HasK.of M.f_law S_law (fun _ _ _ _ _ _ _ => rfl) (b_law M F__law_pot F__law_records F__law_pick F_record_line F_journal_text F__law_draw F__law_is_right F_read_journal F_sum_of F_read_journal_kw)
end K73
set_option Elab.async false
set_option linter.all false
set_option maxRecDepth 100000
namespace K73
open PySem PySem.Spec PyProof.Rows L2 PDL SX
/-! ### tellings -/
inductive Tel where
  | int (i : Int) | bl (b : Bool) | unit | nil | fn | pair (a b : Tel) | cons (a b : Tel)
namespace Tel
def d : Tel → D
  | .int i => .tup [.str "int", .int i]
  | .bl b => .tup [.str "bool", .bl b]
  | .unit => .tup [.str "unit"]
  | .nil => .tup [.str "nil"]
  | .fn => .tup [.str "fun"]
  | .pair a b => .tup [.str "pair", a.d, b.d]
  | .cons a b => .tup [.str "cons", a.d, b.d]
def p : Tel → PyData
  | .int i => .tuple [.str "int", .int i]
  | .bl b => .tuple [.str "bool", .bool b]
  | .unit => .tuple [.str "unit"]
  | .nil => .tuple [.str "nil"]
  | .fn => .tuple [.str "fun"]
  | .pair a b => .tuple [.str "pair", a.p, b.p]
  | .cons a b => .tuple [.str "cons", a.p, b.p]
def high : Tel → Nat
  | .pair a b => max a.high b.high + 1
  | .cons a b => max a.high b.high + 1
  | _ => 1
def size : Tel → Nat
  | .pair a b => a.size + b.size + 1
  | .cons a b => a.size + b.size + 1
  | _ => 1
def kids : Tel → List Tel
  | .pair a b => [a, b]
  | .cons a b => [a, b]
  | _ => []
def isI (i : Int) : Bool := decide (-2147483648 ≤ i) && decide (i ≤ 2147483647)
def ok1 : Tel → Bool
  | .int i => isI i
  | .fn => false
  | _ => true
theorem size_pos : ∀ t : Tel, 1 ≤ t.size
  | .pair _ _ => Nat.succ_le_succ (Nat.zero_le _)
  | .cons _ _ => Nat.succ_le_succ (Nat.zero_le _)
  | .int _ => Nat.le_refl _
  | .bl _ => Nat.le_refl _
  | .unit => Nat.le_refl _
  | .nil => Nat.le_refl _
  | .fn => Nat.le_refl _
theorem pyD_d : ∀ t : Tel, pyD t.d = some t.p
  | .int _ => rfl
  | .bl _ => rfl
  | .unit => rfl
  | .nil => rfl
  | .fn => rfl
  | .pair a b => by simp [d, p, pyD, pyL, pyD_d a, pyD_d b]
  | .cons a b => by simp [d, p, pyD, pyL, pyD_d a, pyD_d b]
theorem d_tup (t : Tel) : ∃ xs, t.d = .tup xs := by cases t <;> exact ⟨_, rfl⟩
theorem py0_d (μ : Store) (t : Tel) : py0 μ t.d = some t.p := by
  rw [← pyD_d t]
  cases t <;> rfl
theorem py_d (μ : Store) (t : Tel) : py μ t.d = some t.p := by
  cases t <;> first | rfl | (simp [d, p, py, pysM, py0_d]; rfl) | simp [d, p, py, pysM, py0_d]
theorem lay : ∀ t : Tel, t.p.canLay0 = true
  | .int _ => by simp [p, PyData.canLay0, PyData.canLayAll0, strOk_ofS]
  | .bl _ => by simp [p, PyData.canLay0, PyData.canLayAll0, strOk_ofS]
  | .unit => by simp [p, PyData.canLay0, PyData.canLayAll0, strOk_ofS]
  | .nil => by simp [p, PyData.canLay0, PyData.canLayAll0, strOk_ofS]
  | .fn => by simp [p, PyData.canLay0, PyData.canLayAll0, strOk_ofS]
  | .pair a b => by simp [p, PyData.canLay0, PyData.canLayAll0, strOk_ofS, lay a, lay b]
  | .cons a b => by simp [p, PyData.canLay0, PyData.canLayAll0, strOk_ofS, lay a, lay b]
theorem dep : ∀ t : Tel, t.p.depth = t.high
  | .int _ => rfl
  | .bl _ => rfl
  | .unit => rfl
  | .nil => rfl
  | .fn => rfl
  | .pair a b => by simp [p, high, PyData.depth, PyData.depthAll, dep a, dep b]
  | .cons a b => by simp [p, high, PyData.depth, PyData.depthAll, dep a, dep b]
theorem loc0 : ∀ t : Tel, locB 0 t.d = true
  | .int _ => rfl
  | .bl _ => rfl
  | .unit => rfl
  | .nil => rfl
  | .fn => rfl
  | .pair a b => by simp [d, locB, locsB, loc0 a, loc0 b]
  | .cons a b => by simp [d, locB, locsB, loc0 a, loc0 b]
theorem kids_size (t : Tel) : (t.kids.map size).sum + 1 = t.size := by
  cases t <;> simp [kids, size]
end Tel
open Tel
/-! ### is_int, is_node, children_of -/
noncomputable def m_is_integer := trim0 (runF N_is_integer ev_is_integer 1)
theorem v_is_integer_int (i : Int) (μ : Store) : m_is_integer [.int i] μ = some (.bl true, μ) := by
  refine trim0_eq (ex := []) ?_
  simp [ev_is_integer, startD, dIsi, tyD, isiTys, isiB]
noncomputable def m_is_int := trim0 (runF N_is_int (ev_is_int m_is_integer) 1)
theorem v_is_int (i : Int) (μ : Store) : m_is_int [.int i] μ = some (.bl (isI i), μ) := by
  refine trim0_eq (ex := []) ?_
  by_cases h : -2147483648 ≤ i <;> simp [ev_is_int, startD, v_is_integer_int, dLe, isI, h]
noncomputable def m_has_signs := trim0 (runF N_has_signs ev_has_signs 3)
noncomputable def m_is_name := trim0 (runF N_is_name (ev_is_name m_has_signs) 1)
noncomputable def m_is_input_name := trim0 (runF N_is_input_name (ev_is_input_name m_has_signs) 1)
noncomputable def m_are_two_names := trim0 (runF N_are_two_names (ev_are_two_names m_is_name) 2)
noncomputable def m_is_sign := trim0 (runF N_is_sign ev_is_sign 1)
noncomputable def m_is_node := trim0 (runF N_is_node (ev_is_node m_is_int m_is_name m_are_two_names m_is_sign m_is_input_name) 1)
theorem sz2 : 2 ≤ sizeLine := by decide
theorem sz1 : 1 ≤ sizeLine := by decide
theorem sz3 : 3 ≤ sizeLine := by decide
theorem sz4 : 4 ≤ sizeLine := by decide
theorem sz0 : 0 ≤ sizeLine := by decide
theorem v_notEmpty (t : Tel) (μ : Store) : dEqv false t.d (.tup []) μ = some false := by
  rw [v_eq (py_d μ t) (q := .tuple []) rfl t.lay rfl (by simp; omega)]
  cases t <;> rfl
theorem v_is_node (t : Tel) (μ : Store) : m_is_node [t.d] μ = some (.bl t.ok1, μ) := by
  refine trim0_eq (ex := []) ?_
  have h := v_notEmpty t μ
  cases t <;> simp only [d] at h <;> simp [ev_is_node, startD, d, h, isiTys, isiB, ofS_inj, tab_LONG, tget, v_is_int, ok1, sz3]

noncomputable def m_children_of := trim0 (runF N_children_of ev_children_of 1)
def slots : Tel → List Int
  | .pair _ _ => [1, 2]
  | .cons _ _ => [1, 2]
  | _ => []
theorem v_children_of (t : Tel) (μ : Store) (h : t ≠ .fn) : m_children_of [t.d] μ = some (.tup (t.kids.map Tel.d), μ) := by
  have key : ∀ (w : Str) (xs : List D) (is : List Int) (ks : List D), t.d = .tup xs → tget tab_CHILDREN w = some (.tup (is.map .int)) → xs[0]? = some (.str w) → ks = is.filterMap (fun i => atI xs i) → (∀ i ∈ is, (atI xs i).isSome) → is.length < sizeLine → locsB 0 ks = true →
      m_children_of [t.d] μ = some (.tup ks, μ) := by
    intro w xs is ks e1 e2 e3 e4 e5 e6 e7
    have hl : (is.map D.int).length < sizeLine := by rw [List.length_map]; exact e6
    obtain ⟨ex, hc⟩ := comp_list (rd := rdList (is.map .int)) (g := egC1 1) (t := evYes) (e := evBin dIx (evVar 0) (evVar 1)) (ρ := [some t.d, none]) (is.map .int) μ (fun _ => true) (fun d => match d with | .int i => (atI xs i).getD .non | _ => .non) (fun _ _ _ => rfl) hl
      (fun i d hd => by
        rw [List.getElem?_map] at hd
        obtain ⟨j, hj, rfl⟩ := map_some hd
        have hs := e5 j (List.mem_of_getElem? hj)
        obtain ⟨z, hz⟩ := Option.isSome_iff_exists.mp hs
        exact ⟨_, rfl, fun acc ex => ⟨rfl, fun _ => ⟨ex, by simp [e1, hz]⟩⟩⟩)
    have e8 : ((is.map D.int).filter fun _ => true).map (fun d => match d with | .int i => (atI xs i).getD .non | _ => .non) = ks := by
      rw [e4, List.filter_eq_self.mpr (fun _ _ => rfl), List.map_map]
      clear hc hl e2 e6 e7 e4
      induction is with
      | nil => rfl
      | cons i r ih =>
        obtain ⟨z, hz⟩ := Option.isSome_iff_exists.mp (e5 i (List.mem_cons_self ..))
        rw [List.map_cons, List.filterMap_cons, hz, ih fun j hj => e5 j (List.mem_cons_of_mem _ hj)]
        simp [hz]
    rw [e8] at hc
    refine trim0_eq (ex := .lst ks :: ex) ?_ (by simpa [locB] using e7)
    have hd : t.d = .tup xs := e1
    simp [ev_children_of, startD, hd, e3, e2]
    rw [hd] at hc
    simp [hc, v_tuple_loc get_last]
  cases t with
  | fn => exact absurd rfl h
  | int i => exact key _ _ [] [] rfl (by rfl) rfl rfl (by simp) (by decide) rfl
  | bl i => exact key _ _ [] [] rfl (by rfl) rfl rfl (by simp) (by decide) rfl
  | unit => exact key _ _ [] [] rfl (by rfl) rfl rfl (by simp) (by decide) rfl
  | nil => exact key _ _ [] [] rfl (by rfl) rfl rfl (by simp) (by decide) rfl
  | pair a b => exact key _ _ [1, 2] [a.d, b.d] rfl (by rfl) rfl rfl (by simp) (by decide) (by simp [locsB, loc0])
  | cons a b => exact key _ _ [1, 2] [a.d, b.d] rfl (by rfl) rfl rfl (by simp) (by decide) (by simp [locsB, loc0])
end K73
set_option Elab.async false
set_option linter.all false
set_option maxRecDepth 100000
namespace K73
open PySem PySem.Spec PyProof.Rows L2 PDL SX Tel
/-! ### worklists -/
theorem pyL_map {α : Type} {f : α → D} {g : α → PyData} (h : ∀ x, pyD (f x) = some (g x)) : ∀ l : List α, pyL (l.map f) = some (l.map g)
  | [] => rfl
  | x :: r => by simp [h x, pyL_map h r]
theorem lay_map {α : Type} {g : α → PyData} (h : ∀ x, (g x).canLay0 = true) : ∀ l : List α, PyData.canLayAll0 (l.map g) = true
  | [] => rfl
  | x :: r => by simp [h x, lay_map h r]
/-- xs != [] -/
theorem v_ne_nil {μ : Store} {n : Nat} {xs : List D} {ps : List PyData} (h : (μ ++ [MO.lst []])[n]? = some (.lst xs)) (hp : pyL xs = some ps) (hl : PyData.canLayAll0 ps = true) (neg : Bool) : dEqv neg (.loc n) (.loc μ.length) (μ ++ [.lst []]) = some (if neg then !xs.isEmpty else xs.isEmpty) := by
  have e1 : py (μ ++ [MO.lst []]) (.loc n) = some (.list ps) := by
    show (match (μ ++ [MO.lst []])[n]? with
      | some (.lst xs) => (pyL xs).map PyData.list
      | _ => none) = _
    rw [h]
    simp only [hp, Option.map_some]
  have e2 : py (μ ++ [MO.lst []]) (.loc μ.length) = some (.list []) := by
    show (match (μ ++ [MO.lst []])[μ.length]? with
      | some (.lst xs) => (pyL xs).map PyData.list
      | _ => none) = _
    rw [get_last]
    rfl
  rw [v_eq e1 e2 (by simpa [PyData.canLay0] using hl) rfl (by simp [PyData.depth, PyData.depthAll])]
  have e3 : PyData.eqv (.list ps) (.list []) = xs.isEmpty := by
    cases xs with
    | nil => cases hp; simp [PyData.eqv, PyData.eqvAll]
    | cons x r =>
      simp only [v_pyL] at hp
      cases h1 : pyD x with
      | none => rw [h1] at hp; cases hp
      | some p =>
        rw [h1] at hp
        cases h2 : pyL r with
        | none => simp only [kPb_s, h2] at hp; cases hp
        | some q =>
          simp only [kPb_s, h2, kPc_s, Option.some.injEq] at hp
          subst hp
          simp [PyData.eqv, PyData.eqvAll]
  rw [e3]
def pr (p : Tel × Nat) : D := .tup [p.1.d, .int p.2]
def prP (p : Tel × Nat) : PyData := .tuple [p.1.p, .int p.2]
theorem pr_py (p : Tel × Nat) : pyD (pr p) = some (prP p) := by
  show (pyL [p.1.d, D.int p.2]).map PyData.tuple = _
  simp [pyD_d, prP]
theorem prP_lay (p : Tel × Nat) : (prP p).canLay0 = true := by simp [prP, lay]
theorem pyL_pr (l : List (Tel × Nat)) : pyL (l.map pr) = some (l.map prP) := pyL_map pr_py l
theorem lay_pr (l : List (Tel × Nat)) : PyData.canLayAll0 (l.map prP) = true := lay_map prP_lay l
def okA : Tel → Bool
  | .pair a b => okA a && okA b
  | .cons a b => okA a && okA b
  | t => t.ok1
theorem okA_ok1 {t : Tel} (h : okA t = true) : t.ok1 = true := by
  cases t <;> first | exact h | rfl
theorem okA_kids {t c : Tel} (h : okA t = true) (hc : c ∈ t.kids) : okA c = true := by
  cases t <;> simp [kids, okA] at h hc
  · rcases hc with rfl | rfl
    · exact h.1
    · exact h.2
  · rcases hc with rfl | rfl
    · exact h.1
    · exact h.2
theorem high_kids {t c : Tel} (hc : c ∈ t.kids) : c.high + 1 ≤ t.high := by
  cases t <;> simp [kids, high] at hc ⊢
  all_goals rcases hc with rfl | rfl <;> omega
theorem high_pos (t : Tel) : 1 ≤ t.high := by cases t <;> simp [high]
def sz (st : List (Tel × Nat)) : Nat := (st.map fun p => p.1.size).sum
theorem sz_len : ∀ st : List (Tel × Nat), st.length ≤ sz st
  | [] => Nat.le_refl _
  | p :: r => by
    have h := sz_len r
    have h2 := size_pos p.1
    show r.length + 1 ≤ p.1.size + sz r
    omega
def push (t : Tel) (k : Nat) (r : List (Tel × Nat)) : List (Tel × Nat) := (t.kids.map fun c => (c, k)).reverse ++ r
theorem sz_push (t : Tel) (k : Nat) (r : List (Tel × Nat)) : sz (push t k r) + 1 = t.size + sz r := by
  have h := kids_size t
  unfold sz push
  rw [List.map_append, List.sum_append, List.map_reverse, List.sum_reverse, List.map_map]
  show (t.kids.map size).sum + _ + 1 = _
  omega
theorem rev_cons (p : Tel × Nat) (r : List (Tel × Nat)) : ((p :: r).reverse.map pr) = r.reverse.map pr ++ [pr p] := by simp
theorem rev_push (t : Tel) (k : Nat) (r : List (Tel × Nat)) : ((push t k r).reverse.map pr) = r.reverse.map pr ++ t.kids.map fun c => pr (c, k) := by
  unfold push
  simp
/-- the pairs of the children -/
theorem comp_kids {t : Tel} {μ : Store} {ρ : PDL.Env} {i j : Nat} {k : Nat} (hi : i < ρ.length) (hj : ρ[j]? = some (some (.int k))) (hij : i ≠ j) :
    ∃ ex, compN (rdList (t.kids.map Tel.d)) (egC1 i) evYes (evTup (evCons (evVar i) (evCons (evBin dAdd (evVar j) (evC (.int 1))) evNil))) μ.length FUEL 0 ρ (μ ++ [.lst []]) = some (μ ++ .lst (t.kids.map fun c => pr (c, k + 1)) :: ex) := by
  obtain ⟨ex, h⟩ := comp_list (rd := rdList (t.kids.map Tel.d)) (g := egC1 i) (t := evYes) (e := evTup (evCons (evVar i) (evCons (evBin dAdd (evVar j) (evC (.int 1))) evNil))) (ρ := ρ) (t.kids.map Tel.d) μ (fun _ => true) (fun d => .tup [d, .int ((k + 1 : Nat) : Int)]) (fun _ _ _ => rfl)
    (by
      rw [List.length_map, size_eq]
      cases t <;> simp [kids])
    (fun a d hd => ⟨ρ.set i (some d), rfl, fun acc ex => ⟨rfl, fun _ => ⟨ex, by
      have h1 : (ρ.set i (some d))[i]? = some (some d) := List.getElem?_set_self hi
      have h2 : (ρ.set i (some d))[j]? = some (some (.int k)) := by rw [List.getElem?_set_ne hij]; exact hj
      simp [h1, h2, sz2]⟩⟩⟩)
  refine ⟨ex, ?_⟩
  rw [h]
  rw [List.filter_eq_self.mpr (fun _ _ => rfl), List.map_map]
  rfl
noncomputable def m_is_within := trim0 (runF N_is_within (ev_is_within m_is_node m_children_of) 3)
def small (t : Tel) (nodes deep : Nat) : Prop := t.size ≤ nodes ∧ t.high ≤ deep ∧ okA t = true
theorem v_is_within (t0 : Tel) (nodes deep : Nat) (μ0 : Store) (ht : t0.size < 1000000) : ∃ b, m_is_within [t0.d, .int nodes, .int deep] μ0 = some (.bl b, μ0) ∧ (small t0 nodes deep → b = true) := by
  have key : ∃ b ex, runF N_is_within (ev_is_within m_is_node m_children_of) 3 [t0.d, .int nodes, .int deep] μ0 = some (.bl b, μ0 ++ ex) ∧ (small t0 nodes deep → b = true) := by
    obtain ⟨r, hr, hR⟩ := while_run (t := evTCmp (dEqv true) (evVar 3) (evLst evNil)) (b := evSeq (evAsg (evMeth "list" dPop (evVar 3) evNil) (egTup 2 (egCons (egName 5) (egCons (egName 6) egNil))))
        (evSeq (evAug 4 dAddI (evC (.int 1)))
        (evSeq (evIfS (evOrT (evTCmp dGt (evVar 4) (evVar 1)) (evOrT (evTCmp dGt (evVar 6) (evVar 2)) (evNotT (evTest (evCall m_is_node (evCons (evVar 5) evNil))))))
        (evRet (evC (.bl false)))
        evNx)
        (evDrop (evMeth "list" dExtend (evVar 3) (evCons (evComp (eiTup (evCall m_children_of (evCons (evVar 5) evNil))) (egC1 7) evYes (evTup (evCons (evVar 7) (evCons (evBin dAdd (evVar 6) (evC (.int 1))) evNil))) [7]) evNil))))))
      (ρ := [some t0.d, some (.int nodes), some (.int deep), some (.loc μ0.length), some (.int 0), none, none, none]) (μ := μ0 ++ [.lst [pr (t0, 1)]]) t0.size
      (fun m ρ μ => ∃ (st : List (Tel × Nat)) (many : Nat) (x5 x6 : Option D) (ex : Store), ρ = [some t0.d, some (.int nodes), some (.int deep), some (.loc μ0.length), some (.int many), x5, x6, none] ∧ μ = μ0 ++ .lst (st.reverse.map pr) :: ex ∧ m = sz st ∧ sz st + many = t0.size ∧
        (small t0 nodes deep → ∀ p ∈ st, okA p.1 = true ∧ p.1.high + p.2 ≤ deep + 1))
      (fun r => ∃ ρ' ex, r = (.nx, ρ', μ0 ++ ex) ∨ (r = (.rt (.bl false), ρ', μ0 ++ ex) ∧ ¬ small t0 nodes deep))
      (by omega)
      ⟨[(t0, 1)], 0, none, none, [], rfl, rfl, by simp [sz], by simp [sz], fun h p hp => by
        simp only [List.mem_singleton] at hp
        subst hp
        exact ⟨h.2.2, by have := h.2.1; simp only; omega⟩⟩
      (by
        rintro m ρ μ ⟨st, many, x5, x6, ex, rfl, rfl, rfl, hs, hg⟩
        have hc : (μ0 ++ MO.lst (st.reverse.map pr) :: ex ++ [MO.lst []])[μ0.length]? = some (.lst (st.reverse.map pr)) := by rw [List.append_assoc, List.cons_append]; exact get_last
        have hne := v_ne_nil hc (pyL_pr _) (lay_pr _) true
        refine ⟨!st.isEmpty, μ0 ++ MO.lst (st.reverse.map pr) :: ex ++ [MO.lst []], ?_, fun hf => ?_, fun htr => ?_⟩
        · simp only [s_evTCmp, s_evVar, s_evLst, s_evNil, kTCmp_s, kTCmp2_s, kLst_s, List.length_nil, Nat.zero_le, if_true, List.getElem?_cons_succ, List.getElem?_cons_zero, kVar_s]
          rw [hne]
          cases st <;> simp
        · exact ⟨_, _, .inl (by rw [List.append_assoc])⟩
        · cases st with
          | nil => cases htr
          | cons p r =>
            obtain ⟨t, k⟩ := p
            obtain ⟨L, hL⟩ : ∃ L, L = r.reverse.map pr := ⟨_, rfl⟩
            have e0 : (μ0 ++ MO.lst (((t, k) :: r).reverse.map pr) :: ex ++ [MO.lst []]) = μ0 ++ MO.lst (L ++ [.tup [t.d, .int k]]) :: (ex ++ [MO.lst []]) := by rw [rev_cons, hL]; simp [pr]
            rw [e0]
            generalize ex ++ [MO.lst []] = ex1
            have hpop := v_pop (μ := μ0 ++ MO.lst (L ++ [.tup [t.d, .int k]]) :: ex1) (n := μ0.length) (xs := L) (d := .tup [t.d, .int k]) get_last
            rw [set_last] at hpop
            have hsz : sz ((t, k) :: r) = t.size + sz r := rfl
            have hsp := size_pos t
            have hLl : L.length = r.length := by rw [hL]; simp
            by_cases hbad : nodes < many + 1 ∨ deep < k ∨ t.ok1 = false
            · refine ⟨.rt (.bl false), [some t0.d, some (.int nodes), some (.int deep), some (.loc μ0.length), some (.int ((many : Int) + 1)), some t.d, some (.int k), none], μ0 ++ MO.lst L :: ex1, ?_, ?_⟩
              · by_cases h1 : (nodes : Int) < (many : Int) + 1
                · simp [isTy_loc get_last, hpop, h1]
                · by_cases h2 : (deep : Int) < (k : Int)
                  · simp [isTy_loc get_last, hpop, h1, h2]
                  · have h3 : t.ok1 = false := by
                      rcases hbad with hb | hb | hb
                      · omega
                      · omega
                      · exact hb
                    simp [isTy_loc get_last, hpop, h1, h2, v_is_node, h3]
              · refine ⟨_, _, .inr ⟨rfl, fun hsm => ?_⟩⟩
                obtain ⟨g1, g2⟩ := hg hsm (t, k) (List.mem_cons_self ..)
                have g3 := hsm.1
                have g4 := high_pos t
                have g5 := okA_ok1 g1
                simp only at g2
                rcases hbad with hb | hb | hb
                · omega
                · omega
                · rw [g5] at hb; cases hb
            · have b1 : ¬ (nodes : Int) < (many : Int) + 1 := by omega
              have b2 : ¬ (deep : Int) < (k : Int) := by omega
              have b3 : t.ok1 = true := by
                cases h : t.ok1 with
                | true => rfl
                | false => exact absurd (.inr (.inr h)) hbad
              have b4 : t ≠ .fn := by rintro rfl; cases b3
              obtain ⟨ex2, hck⟩ := comp_kids (t := t) (μ := μ0 ++ MO.lst L :: ex1) (ρ := [some t0.d, some (.int nodes), some (.int deep), some (.loc μ0.length), some (.int ((many : Int) + 1)), some t.d, some (.int k), none]) (i := 7) (j := 6) (k := k) (by show 7 < 8; decide) rfl (by decide)
              obtain ⟨C, hC⟩ : ∃ C, C = t.kids.map fun c => pr (c, k + 1) := ⟨_, rfl⟩
              rw [← hC] at hck
              have hCl : C.length = t.kids.length := by rw [hC]; simp
              have e1 : (μ0 ++ MO.lst L :: ex1 ++ MO.lst C :: ex2) = μ0 ++ MO.lst L :: (ex1 ++ MO.lst C :: ex2) := by simp
              have hsp2 := sz_push t (k + 1) r
              have hl2 := sz_len (push t (k + 1) r)
              have hext := v_extend (μ := μ0 ++ MO.lst L :: ex1 ++ MO.lst C :: ex2) (n := μ0.length) (m := (μ0 ++ MO.lst L :: ex1).length) (xs := L) (ys := C) (by rw [e1]; exact get_last) get_last
                (by
                  rw [size_eq]
                  have : (push t (k + 1) r).length = t.kids.length + r.length := by simp [push]
                  omega)
              have e2 : (μ0 ++ MO.lst L :: ex1 ++ MO.lst C :: ex2).set μ0.length (.lst (L ++ C)) = μ0 ++ MO.lst ((push t (k + 1) r).reverse.map pr) :: (ex1 ++ MO.lst C :: ex2) := by
                rw [e1, set_last, rev_push, hL, hC]
              rw [e2] at hext
              refine ⟨.nx, [some t0.d, some (.int nodes), some (.int deep), some (.loc μ0.length), some (.int ((many : Int) + 1)), some t.d, some (.int k), none], _, ?_, sz (push t (k + 1) r), by omega, push t (k + 1) r, many + 1, some t.d, some (.int k), ex1 ++ MO.lst C :: ex2, by simp, rfl, rfl, by omega, fun hsm p hp => ?_⟩
              · have hty : isTy "list" (μ0 ++ MO.lst L :: ex1) (.loc μ0.length) = true := isTy_loc get_last
                simp only [List.append_assoc, List.cons_append, List.length_append, List.length_cons] at hext hck
                simp [isTy_loc get_last, hpop, b1, b2, b3, v_is_node, v_children_of t _ b4, hck, hext]
              · unfold push at hp
                rcases List.mem_append.mp hp with hp | hp
                · obtain ⟨c, hc, rfl⟩ := List.mem_map.mp (List.mem_reverse.mp hp)
                  obtain ⟨g1, g2⟩ := hg hsm (t, k) (List.mem_cons_self ..)
                  have g3 := high_kids hc
                  exact ⟨okA_kids g1 hc, by simp only at g2 ⊢; omega⟩
                · exact hg hsm p (List.mem_cons_of_mem _ hp))
    obtain ⟨ρ', ex, h | ⟨h, hn⟩⟩ := hR
    · subst h
      refine ⟨true, ex, ?_, fun _ => rfl⟩
      simp [ev_is_within, startD]
      simp [pr] at hr
      simp [hr, sz1, sz2]
    · subst h
      refine ⟨false, ex, ?_, fun h => absurd h hn⟩
      simp [ev_is_within, startD]
      simp [pr] at hr
      simp [hr, sz1, sz2]
  obtain ⟨b, ex, h1, h2⟩ := key
  exact ⟨b, trim0_eq h1, h2⟩
end K73
set_option Elab.async false
set_option linter.all false
set_option maxRecDepth 100000
namespace K73
open PySem PySem.Spec PyProof.Rows L2 PDL SX Tel
def tag : Tel → String
  | .int _ => "int"
  | .bl _ => "bool"
  | .unit => "unit"
  | .nil => "nil"
  | .fn => "fun"
  | .pair _ _ => "pair"
  | .cons _ _ => "cons"
theorem v_ix0 (t : Tel) (μ : Store) : dIx t.d (.int 0) μ = some (.str (Str.ofString (tag t)), μ) := by cases t <;> simp [d, tag]
def isFn : Tel → Bool
  | .fn => true
  | _ => false
theorem v_six (t : Tel) (neg : Bool) (μ : Store) : dIn neg (.str (Str.ofString (tag t))) (.tup [.str "int", .str "bool", .str "unit", .str "nil", .str "pair", .str "cons"]) μ = some (if neg then isFn t else !isFn t) := by
  cases t <;> cases neg <;> simp [tag, isFn]
theorem fn_of {t : Tel} (h : isFn t = false) : t ≠ .fn := by rintro rfl; cases h
theorem v_isfn (t : Tel) (neg : Bool) (μ : Store) : dEqv neg t.d (.tup [.str "fun"]) μ = some (if neg then !isFn t else isFn t) := by
  rw [v_eq (py_d μ t) (q := .tuple [.str "fun"]) rfl t.lay (by simp) (by simp; omega)]
  cases t <;> simp [p, isFn]
theorem pyL_d (l : List Tel) : pyL (l.map Tel.d) = some (l.map Tel.p) := pyL_map pyD_d l
theorem lay_d (l : List Tel) : PyData.canLayAll0 (l.map Tel.p) = true := lay_map lay l
def szT (st : List Tel) : Nat := (st.map Tel.size).sum
theorem szT_len : ∀ st : List Tel, st.length ≤ szT st
  | [] => Nat.le_refl _
  | p :: r => by
    have h := szT_len r
    have h2 := size_pos p
    show r.length + 1 ≤ p.size + szT r
    omega
theorem szT_push (t : Tel) (r : List Tel) : szT (t.kids.reverse ++ r) + 1 = t.size + szT r := by
  have h := kids_size t
  unfold szT
  rw [List.map_append, List.sum_append, List.map_reverse, List.sum_reverse]
  omega
theorem okA_nofn {t : Tel} (h : okA t = true) : isFn t = false := by
  cases t <;> first | rfl | cases h
noncomputable def m_is_data_of := trim0 (runF N_is_data_of (ev_is_data_of m_is_within m_children_of) 1)
theorem v_is_data_of (t0 : Tel) (μ0 : Store) (ht : t0.size < 1000000) : ∃ b, m_is_data_of [t0.d] μ0 = some (.bl b, μ0) ∧ (small t0 2000 60 → b = true) := by
  obtain ⟨b0, hw, hb0⟩ := v_is_within t0 2000 60 μ0 ht
  have hw : m_is_within [t0.d, .int 2000, .int 60] μ0 = some (.bl b0, μ0) := hw
  have key : ∃ b ex, runF N_is_data_of (ev_is_data_of m_is_within m_children_of) 1 [t0.d] μ0 = some (.bl b, μ0 ++ ex) ∧ (small t0 2000 60 → b = true) := by
    obtain ⟨r, hr, hR⟩ := while_run (t := evTCmp (dEqv true) (evVar 1) (evLst evNil)) (b := evSeq (evAsg (evMeth "list" dPop (evVar 1) evNil) (egName 2))
        (evSeq (evIfS (evTCmp (dIn true) (evBin dIx (evVar 2) (evC (.int 0))) (evTup (evCons (evC (.str "int")) (evCons (evC (.str "bool")) (evCons (evC (.str "unit")) (evCons (evC (.str "nil")) (evCons (evC (.str "pair")) (evCons (evC (.str "cons")) evNil))))))))
        (evRet (evC (.bl false)))
        evNx)
        (evDrop (evMeth "list" dExtend (evVar 1) (evCons (evCall m_children_of (evCons (evVar 2) evNil)) evNil)))))
      (ρ := [some t0.d, some (.loc μ0.length), none]) (μ := μ0 ++ [.lst [t0.d]]) t0.size
      (fun m ρ μ => ∃ (st : List Tel) (x2 : Option D) (ex : Store), ρ = [some t0.d, some (.loc μ0.length), x2] ∧ μ = μ0 ++ .lst (st.reverse.map Tel.d) :: ex ∧ m = szT st ∧ szT st ≤ t0.size ∧ (okA t0 = true → ∀ p ∈ st, okA p = true))
      (fun r => ∃ ρ' ex, r = (.nx, ρ', μ0 ++ ex) ∨ (r = (.rt (.bl false), ρ', μ0 ++ ex) ∧ ¬ okA t0 = true))
      (by omega)
      ⟨[t0], none, [], rfl, rfl, by simp [szT], by simp [szT], fun h p hp => by
        simp only [List.mem_singleton] at hp
        subst hp
        exact h⟩
      (by
        rintro m ρ μ ⟨st, x2, ex, rfl, rfl, rfl, hs, hg⟩
        have hc : (μ0 ++ MO.lst (st.reverse.map Tel.d) :: ex ++ [MO.lst []])[μ0.length]? = some (.lst (st.reverse.map Tel.d)) := by rw [List.append_assoc, List.cons_append]; exact get_last
        have hne := v_ne_nil hc (pyL_d _) (lay_d _) true
        refine ⟨!st.isEmpty, μ0 ++ MO.lst (st.reverse.map Tel.d) :: ex ++ [MO.lst []], ?_, fun hf => ?_, fun htr => ?_⟩
        · simp only [s_evTCmp, s_evVar, s_evLst, s_evNil, kTCmp_s, kTCmp2_s, kLst_s, List.length_nil, Nat.zero_le, if_true, List.getElem?_cons_succ, List.getElem?_cons_zero, kVar_s]
          rw [hne]
          cases st <;> simp
        · exact ⟨_, _, .inl (by rw [List.append_assoc])⟩
        · cases st with
          | nil => cases htr
          | cons t r =>
            obtain ⟨L, hL⟩ : ∃ L, L = r.reverse.map Tel.d := ⟨_, rfl⟩
            have e0 : (μ0 ++ MO.lst ((t :: r).reverse.map Tel.d) :: ex ++ [MO.lst []]) = μ0 ++ MO.lst (L ++ [t.d]) :: (ex ++ [MO.lst []]) := by rw [hL]; simp
            rw [e0]
            generalize ex ++ [MO.lst []] = ex1
            have hpop := v_pop (μ := μ0 ++ MO.lst (L ++ [t.d]) :: ex1) (n := μ0.length) (xs := L) (d := t.d) get_last
            rw [set_last] at hpop
            have hsz : szT (t :: r) = t.size + szT r := rfl
            have hsp := size_pos t
            have hLl : L.length = r.length := by rw [hL]; simp
            cases hf : isFn t with
            | true =>
              refine ⟨.rt (.bl false), [some t0.d, some (.loc μ0.length), some t.d], μ0 ++ MO.lst L :: ex1, ?_, ?_⟩
              · simp only [s_evSeq, s_evAsg, s_evMeth, s_evVar, List.getElem?_cons_succ, List.getElem?_cons_zero, kVar_s, kMe_s, isTy_loc get_last, if_true, s_evNil, kMe2_s, hpop, kAsg_s, s_egName, kAsg2_s, kSeq_n, List.set_cons_succ, List.set_cons_zero, s_evIfS, s_evTCmp, s_evBin, kBin_s, s_evC, kBin2_s, v_ix0, kTCmp_s, s_evTup, s_evCons, kCons_s, kCons2_s, kTup_s, List.length_cons, List.length_nil, show (0 + 1 + 1 + 1 + 1 + 1 + 1 ≤ sizeLine) by decide, kTCmp2_s, v_six, hf, kTl_s, kIfS_s, s_evRet, kRet_s, kSeq_r]
              · refine ⟨_, _, .inr ⟨rfl, fun hsm => ?_⟩⟩
                have := okA_nofn (hg hsm t (List.mem_cons_self ..))
                rw [hf] at this
                cases this
            | false =>
              have b4 : t ≠ .fn := fn_of hf
              have hsp2 := szT_push t r
              have hl2 := szT_len (t.kids.reverse ++ r)
              have hext := v_extend_tup (μ := μ0 ++ MO.lst L :: ex1) (n := μ0.length) (xs := L) (ys := t.kids.map Tel.d) get_last
                (by
                  rw [size_eq]
                  simp only [List.length_append, List.length_reverse] at hl2
                  simp only [List.length_map]
                  omega)
              rw [set_last] at hext
              have e2 : (L ++ t.kids.map Tel.d) = ((t.kids.reverse ++ r).reverse.map Tel.d) := by rw [hL]; simp
              rw [e2] at hext
              refine ⟨.nx, [some t0.d, some (.loc μ0.length), some t.d], _, ?_, szT (t.kids.reverse ++ r), by omega, t.kids.reverse ++ r, some t.d, ex1, rfl, rfl, rfl, by omega, fun hsm p hp => ?_⟩
              · simp only [s_evSeq, s_evAsg, s_evMeth, s_evVar, List.getElem?_cons_succ, List.getElem?_cons_zero, kVar_s, kMe_s, isTy_loc get_last, if_true, s_evNil, kMe2_s, hpop, kAsg_s, s_egName, kAsg2_s, kSeq_n, List.set_cons_succ, List.set_cons_zero, s_evIfS, s_evTCmp, s_evBin, kBin_s, s_evC, kBin2_s, v_ix0, kTCmp_s, s_evTup, s_evCons, kCons_s, kCons2_s, kTup_s, List.length_cons, List.length_nil, show (0 + 1 + 1 + 1 + 1 + 1 + 1 ≤ sizeLine) by decide, kTCmp2_s, v_six, hf, kTl_s, kIfS_s, Bool.false_eq_true, if_false, s_evNx, s_evDrop, s_evCall, kCall_s, v_children_of t _ b4, hext, kDrop_s]
              · rcases List.mem_append.mp hp with hp | hp
                · exact okA_kids (hg hsm t (List.mem_cons_self ..)) (List.mem_reverse.mp hp)
                · exact hg hsm p (List.mem_cons_of_mem _ hp))
    cases b0 with
    | false =>
      refine ⟨false, [], ?_, hb0⟩
      simp [ev_is_data_of, startD, hw]
    | true =>
      obtain ⟨ρ', ex, h | ⟨h, hn⟩⟩ := hR
      · subst h
        refine ⟨true, ex, ?_, fun _ => rfl⟩
        simp [ev_is_data_of, startD, hw, sz1, hr]
      · subst h
        refine ⟨false, ex, ?_, fun h => absurd h.2.2 hn⟩
        simp [ev_is_data_of, startD, hw, sz1, hr]
  obtain ⟨b, ex, h1, h2⟩ := key
  exact ⟨b, trim0_eq h1, h2⟩
/-! ### is_telling_of -/
def okB : Tel → Bool
  | .int i => isI i
  | .pair a b => okB a && okB b
  | .cons a b => okB a && okB b
  | _ => true
theorem okB_ok1 {t : Tel} (h : okB t = true) (hf : isFn t = false) : t.ok1 = true := by
  cases t <;> first | exact h | rfl | cases hf
theorem okB_kids {t c : Tel} (h : okB t = true) (hc : c ∈ t.kids) : okB c = true := by
  cases t <;> simp [kids, okB] at h hc
  · rcases hc with rfl | rfl
    · exact h.1
    · exact h.2
  · rcases hc with rfl | rfl
    · exact h.1
    · exact h.2
noncomputable def m_is_telling_of := trim0 (runF N_is_telling_of (ev_is_telling_of m_is_node m_children_of) 1)
theorem v_is_telling_of (t0 : Tel) (μ0 : Store) (ht : t0.size < 1000000) : ∃ b, m_is_telling_of [t0.d] μ0 = some (.bl b, μ0) ∧ (t0.high ≤ 60 ∧ okB t0 = true → b = true) := by
  have key : ∃ b ex, runF N_is_telling_of (ev_is_telling_of m_is_node m_children_of) 1 [t0.d] μ0 = some (.bl b, μ0 ++ ex) ∧ (t0.high ≤ 60 ∧ okB t0 = true → b = true) := by
    obtain ⟨r, hr, hR⟩ := while_run (t := evTCmp (dEqv true) (evVar 1) (evLst evNil)) (b := evSeq (evAsg (evMeth "list" dPop (evVar 1) evNil) (egTup 2 (egCons (egName 2) (egCons (egName 3) egNil))))
        (evSeq (evIfS (evTCmp dGt (evVar 3) (evC (.int (60))))
        (evRet (evC (.bl false)))
        evNx)
        (evIfS (evTCmp (dEqv true) (evVar 2) (evTup (evCons (evC (.str "fun")) evNil)))
        (evSeq (evIfS (evOrT (evNotT (evTest (evCall m_is_node (evCons (evVar 2) evNil)))) (evTCmp (dIn true) (evBin dIx (evVar 2) (evC (.int 0))) (evTup (evCons (evC (.str "int")) (evCons (evC (.str "bool")) (evCons (evC (.str "unit")) (evCons (evC (.str "nil")) (evCons (evC (.str "pair")) (evCons (evC (.str "cons")) evNil)))))))))
        (evRet (evC (.bl false)))
        evNx)
        (evDrop (evMeth "list" dExtend (evVar 1) (evCons (evComp (eiTup (evCall m_children_of (evCons (evVar 2) evNil))) (egC1 4) evYes (evTup (evCons (evVar 4) (evCons (evBin dAdd (evVar 3) (evC (.int 1))) evNil))) [4]) evNil))))
        evNx)))
      (ρ := [some t0.d, some (.loc μ0.length), none, none, none]) (μ := μ0 ++ [.lst [pr (t0, 1)]]) t0.size
      (fun m ρ μ => ∃ (st : List (Tel × Nat)) (x2 x3 : Option D) (ex : Store), ρ = [some t0.d, some (.loc μ0.length), x2, x3, none] ∧ μ = μ0 ++ .lst (st.reverse.map pr) :: ex ∧ m = sz st ∧ sz st ≤ t0.size ∧
        (t0.high ≤ 60 ∧ okB t0 = true → ∀ p ∈ st, okB p.1 = true ∧ p.1.high + p.2 ≤ 61))
      (fun r => ∃ ρ' ex, r = (.nx, ρ', μ0 ++ ex) ∨ (r = (.rt (.bl false), ρ', μ0 ++ ex) ∧ ¬ (t0.high ≤ 60 ∧ okB t0 = true)))
      (by omega)
      ⟨[(t0, 1)], none, none, [], rfl, rfl, by simp [sz], by simp [sz], fun h p hp => by
        simp only [List.mem_singleton] at hp
        subst hp
        exact ⟨h.2, by have := h.1; simp only; omega⟩⟩
      (by
        rintro m ρ μ ⟨st, x2, x3, ex, rfl, rfl, rfl, hs, hg⟩
        have hc : (μ0 ++ MO.lst (st.reverse.map pr) :: ex ++ [MO.lst []])[μ0.length]? = some (.lst (st.reverse.map pr)) := by rw [List.append_assoc, List.cons_append]; exact get_last
        have hne := v_ne_nil hc (pyL_pr _) (lay_pr _) true
        refine ⟨!st.isEmpty, μ0 ++ MO.lst (st.reverse.map pr) :: ex ++ [MO.lst []], ?_, fun hf => ?_, fun htr => ?_⟩
        · simp only [s_evTCmp, s_evVar, s_evLst, s_evNil, kTCmp_s, kTCmp2_s, kLst_s, List.length_nil, Nat.zero_le, if_true, List.getElem?_cons_succ, List.getElem?_cons_zero, kVar_s]
          rw [hne]
          cases st <;> simp
        · exact ⟨_, _, .inl (by rw [List.append_assoc])⟩
        · cases st with
          | nil => cases htr
          | cons p r =>
            obtain ⟨t, k⟩ := p
            obtain ⟨L, hL⟩ : ∃ L, L = r.reverse.map pr := ⟨_, rfl⟩
            have e0 : (μ0 ++ MO.lst (((t, k) :: r).reverse.map pr) :: ex ++ [MO.lst []]) = μ0 ++ MO.lst (L ++ [.tup [t.d, .int k]]) :: (ex ++ [MO.lst []]) := by rw [rev_cons, hL]; simp [pr]
            rw [e0]
            generalize ex ++ [MO.lst []] = ex1
            have hpop := v_pop (μ := μ0 ++ MO.lst (L ++ [.tup [t.d, .int k]]) :: ex1) (n := μ0.length) (xs := L) (d := .tup [t.d, .int k]) get_last
            rw [set_last] at hpop
            have hsz : sz ((t, k) :: r) = t.size + sz r := rfl
            have hsp := size_pos t
            have hLl : L.length = r.length := by rw [hL]; simp
            have s6 : (6 : Nat) ≤ sizeLine := by decide
            by_cases hdeep : (60 : Int) < (k : Int)
            · refine ⟨.rt (.bl false), [some t0.d, some (.loc μ0.length), some t.d, some (.int k), none], μ0 ++ MO.lst L :: ex1, ?_, ?_⟩
              · simp [isTy_loc get_last, hpop, hdeep]
              · refine ⟨_, _, .inr ⟨rfl, fun hsm => ?_⟩⟩
                obtain ⟨g1, g2⟩ := hg hsm (t, k) (List.mem_cons_self ..)
                have g4 := high_pos t
                simp only at g2
                omega
            · cases hf : isFn t with
              | true =>
                refine ⟨.nx, [some t0.d, some (.loc μ0.length), some t.d, some (.int k), none], μ0 ++ MO.lst L :: ex1, ?_, sz r, by omega, r, some t.d, some (.int k), ex1, rfl, by rw [hL], rfl, by omega, fun hsm p hp => hg hsm p (List.mem_cons_of_mem _ hp)⟩
                simp [isTy_loc get_last, hpop, hdeep, sz1, v_isfn, hf]
              | false =>
                have b4 : t ≠ .fn := fn_of hf
                cases b3 : t.ok1 with
                | false =>
                  refine ⟨.rt (.bl false), [some t0.d, some (.loc μ0.length), some t.d, some (.int k), none], μ0 ++ MO.lst L :: ex1, ?_, ?_⟩
                  · simp [isTy_loc get_last, hpop, hdeep, sz1, v_isfn, hf, v_is_node, b3]
                  · refine ⟨_, _, .inr ⟨rfl, fun hsm => ?_⟩⟩
                    have := okB_ok1 (hg hsm (t, k) (List.mem_cons_self ..)).1 hf
                    rw [b3] at this
                    cases this
                | true =>
                  obtain ⟨ex2, hck⟩ := comp_kids (t := t) (μ := μ0 ++ MO.lst L :: ex1) (ρ := [some t0.d, some (.loc μ0.length), some t.d, some (.int k), none]) (i := 4) (j := 3) (k := k) (by show 4 < 5; decide) rfl (by decide)
                  obtain ⟨C, hC⟩ : ∃ C, C = t.kids.map fun c => pr (c, k + 1) := ⟨_, rfl⟩
                  rw [← hC] at hck
                  have hCl : C.length = t.kids.length := by rw [hC]; simp
                  have e1 : (μ0 ++ MO.lst L :: ex1 ++ MO.lst C :: ex2) = μ0 ++ MO.lst L :: (ex1 ++ MO.lst C :: ex2) := by simp
                  have hsp2 := sz_push t (k + 1) r
                  have hl2 := sz_len (push t (k + 1) r)
                  have hext := v_extend (μ := μ0 ++ MO.lst L :: ex1 ++ MO.lst C :: ex2) (n := μ0.length) (m := (μ0 ++ MO.lst L :: ex1).length) (xs := L) (ys := C) (by rw [e1]; exact get_last) get_last
                    (by
                      rw [size_eq]
                      have : (push t (k + 1) r).length = t.kids.length + r.length := by simp [push]
                      omega)
                  have e2 : (μ0 ++ MO.lst L :: ex1 ++ MO.lst C :: ex2).set μ0.length (.lst (L ++ C)) = μ0 ++ MO.lst ((push t (k + 1) r).reverse.map pr) :: (ex1 ++ MO.lst C :: ex2) := by
                    rw [e1, set_last, rev_push, hL, hC]
                  rw [e2] at hext
                  refine ⟨.nx, [some t0.d, some (.loc μ0.length), some t.d, some (.int k), none], _, ?_, sz (push t (k + 1) r), by omega, push t (k + 1) r, some t.d, some (.int k), ex1 ++ MO.lst C :: ex2, rfl, rfl, rfl, by omega, fun hsm p hp => ?_⟩
                  · simp only [List.append_assoc, List.cons_append, List.length_append, List.length_cons] at hext hck
                    have six := v_six t true (μ0 ++ MO.lst L :: ex1)
                    rw [hf] at six
                    simp [isTy_loc get_last, hpop, hdeep, sz1, v_isfn, hf, v_is_node, b3, v_ix0, s6, -v_in_str, six, v_children_of t _ b4, hck, hext]
                  · unfold push at hp
                    rcases List.mem_append.mp hp with hp | hp
                    · obtain ⟨c, hc, rfl⟩ := List.mem_map.mp (List.mem_reverse.mp hp)
                      obtain ⟨g1, g2⟩ := hg hsm (t, k) (List.mem_cons_self ..)
                      have g3 := high_kids hc
                      exact ⟨okB_kids g1 hc, by simp only at g2 ⊢; omega⟩
                    · exact hg hsm p (List.mem_cons_of_mem _ hp))
    obtain ⟨ρ', ex, h | ⟨h, hn⟩⟩ := hR
    · subst h
      refine ⟨true, ex, ?_, fun _ => rfl⟩
      simp only [pr] at hr
      simp [ev_is_telling_of, startD, sz1, sz2]
      simp at hr
      simp [hr]
    · subst h
      refine ⟨false, ex, ?_, fun h => absurd h hn⟩
      simp only [pr] at hr
      simp [ev_is_telling_of, startD, sz1, sz2]
      simp at hr
      simp [hr]
  obtain ⟨b, ex, h1, h2⟩ := key
  exact ⟨b, trim0_eq h1, h2⟩
end K73
set_option Elab.async false
set_option linter.all false
set_option maxRecDepth 100000
namespace K73
open PySem PySem.Spec PyProof.Rows L2 PDL SX Tel
/-! ### literals as signs -/
theorem l_nl : Str.ofString "\n" = S [10] := by decide +kernel
theorem l_bs : Str.ofString "\\" = S [92] := by decide +kernel
theorem l_sp : Str.ofString " " = S [32] := by decide +kernel
theorem l_tl : Str.ofString "~" = S [126] := by decide +kernel
theorem l_sc : Str.ofString ";" = S [59] := by decide +kernel
theorem l_em : Str.ofString "" = S [] := by decide +kernel
theorem l_mi : Str.ofString "-" = S [45] := by decide +kernel
theorem l_i : Str.ofString "i" = S [105] := by decide +kernel
theorem l_p : Str.ofString "p" = S [112] := by decide +kernel
theorem l_c : Str.ofString "c" = S [99] := by decide +kernel
theorem l_t : Str.ofString "t" = S [116] := by decide +kernel
theorem l_f : Str.ofString "f" = S [102] := by decide +kernel
theorem l_u : Str.ofString "u" = S [117] := by decide +kernel
theorem l_n : Str.ofString "n" = S [110] := by decide +kernel
theorem l_F : Str.ofString "F" = S [70] := by decide +kernel
def figL : List Nat := [48, 49, 50, 51, 52, 53, 54, 55, 56, 57]
theorem l_fig : Str.ofString "0123456789" = S figL := by decide +kernel
def greatL : List Nat := (Str.ofString "ABCDEFGHIJKLMNOPQRSTUVWXYZ").cps.toList
def smallL : List Nat := (Str.ofString "abcdefghijklmnopqrstuvwxyz").cps.toList
theorem l_great : Str.ofString "ABCDEFGHIJKLMNOPQRSTUVWXYZ" = S greatL := (S_tl _).symm
theorem l_small : Str.ofString "abcdefghijklmnopqrstuvwxyz" = S smallL := (S_tl _).symm
def Asc (cs : List Nat) : Prop := ∀ c ∈ cs, c < 128
theorem sgn_get (cs : List Nat) (i : Nat) (d : D) (h : (strs1 (S cs))[i]? = some d) : ∃ c, cs[i]? = some c ∧ d = .str (S [c]) := by
  rw [strs1_S, List.getElem?_map] at h
  obtain ⟨c, h1, h2⟩ := map_some h
  exact ⟨c, h1, h2.symm⟩
def sgnOf : D → Nat
  | .str z => z.cps.getD 0 0
  | _ => 0
theorem sgnOf_S (c : Nat) : sgnOf (.str (S [c])) = c := rfl
/-- all([.. for sign in text]) -/
theorem all_signs {cs : List Nat} {ρ ρ' : PDL.Env} {i : Nat} {e : Ev} {μ : Store} (f : Nat → Bool) (hl : cs.length < 1000000) (he : ∀ c ∈ cs, ∀ acc ex, ∃ ex', e (ρ.set i (some (.str (S [c])))) (μ ++ .lst acc :: ex) = some (.bl (f c), μ ++ .lst acc :: ex')) :
    ∃ ex, kCall dAll (kCons evNil ρ' (kComp (egC1 i) evYes e ρ (some (rdList (strs1 (S cs)), μ)))) = some (.bl (cs.all f), μ ++ ex) := by
  have hlen : (strs1 (S cs)).length = cs.length := by rw [strs1_S, List.length_map]
  obtain ⟨ex, h⟩ := comp_list (rd := rdList (strs1 (S cs))) (g := egC1 i) (t := evYes) (e := e) (ρ := ρ) (strs1 (S cs)) μ (fun _ => true) (fun d => .bl (f (sgnOf d))) (fun _ _ _ => rfl) (by rw [hlen, size_eq]; omega)
    (fun a d hd => by
      obtain ⟨c, hc, rfl⟩ := sgn_get cs a d hd
      exact ⟨_, rfl, fun acc ex => ⟨rfl, fun _ => he c (List.mem_of_getElem? hc) acc ex⟩⟩)
  rw [List.filter_eq_self.mpr (fun _ _ => rfl), strs1_S, List.map_map] at h
  have e2 : (cs.map ((fun d => D.bl (f (sgnOf d))) ∘ fun c => D.str (S [c]))) = (cs.map f).map D.bl := by rw [List.map_map]; rfl
  rw [e2] at h
  refine ⟨.lst ((cs.map f).map D.bl) :: ex, ?_⟩
  rw [strs1_S]
  simp only [kComp_s, h, Option.map_some, kCons_s, s_evNil, kCons2_s, kCall_s]
  rw [v_all_loc get_last]
  simp [List.all_map]
noncomputable def m_is_text := trim0 (runF N_is_text ev_is_text 2)
def okc (c : Nat) : Bool := decide (c = 10) || (decide (32 ≤ c) && decide (c ≤ 126) && !decide (c = 92))
def isT (least : Int) (cs : List Nat) : Bool := decide (least ≤ cs.length) && (decide (cs.length ≤ 20000) && cs.all okc)
theorem asc1 {c : Nat} (h : c < 128) : ∀ x ∈ [c], x < 128 := fun x hx => by rw [List.mem_singleton.mp hx]; exact h
theorem v_is_text (cs : List Nat) (least : Int) (μ : Store) (ha : Asc cs) (hl : cs.length < 1000000) : m_is_text [.str (S cs), .int least] μ = some (.bl (isT least cs), μ) := by
  have hz : cs.length ≤ sizeLine := by rw [size_eq]; omega
  obtain ⟨ex, h⟩ := all_signs (cs := cs) (ρ := [some (.str (S cs)), some (.int least), none]) (ρ' := [some (.str (S cs)), some (.int least), none]) (i := 2) (e := evOr (evCmp (dEqv false) (evVar 2) (evC (.str "\n"))) (evAnd (evChain dLe dLe (evC (.str " ")) (evVar 2) (evC (.str "~"))) (evCmp (dEqv true) (evVar 2) (evC (.str "\\"))))) (μ := μ) okc hl
    (fun c hc acc ex => ⟨ex, by
      have h1 := asc1 (ha c hc)
      simp only [l_nl, l_sp, l_tl, l_bs]
      have e1 := fun neg (μ : Store) => v_eq_S (neg := neg) (μ := μ) h1 (asc1 (c := 10) (by decide))
      have e2 := fun neg (μ : Store) => v_eq_S (neg := neg) (μ := μ) h1 (asc1 (c := 92) (by decide))
      by_cases q1 : c = 10
      · subst q1
        simp [e1, okc]
      · by_cases q2 : 32 ≤ c
        · by_cases q3 : c ≤ 126 <;> simp [e1, e2, okc, q1, q2, q3, v_le_sign]
        · simp [e1, e2, okc, q1, q2, v_le_sign]⟩)
  by_cases g1 : least ≤ (cs.length : Int)
  · by_cases g2 : (cs.length : Int) ≤ 20000
    · refine trim0_eq (ex := ex) ?_
      simp [-kComp_s, ev_is_text, startD, isiTys, isiB, v_len_str hz, g1, g2, isT, show cs.length ≤ 20000 by omega, h]
    · refine trim0_eq (ex := []) ?_
      simp [ev_is_text, startD, isiTys, isiB, v_len_str hz, g1, g2, isT, show ¬ cs.length ≤ 20000 by omega]
  · refine trim0_eq (ex := []) ?_
    simp [ev_is_text, startD, isiTys, isiB, v_len_str hz, g1, isT]
def hasS (cs f o : List Nat) : Bool := decide (1 ≤ cs.length) && (decide (cs.length ≤ 12) && (decide (cs.headD 0 ∈ f) && cs.all fun c => decide (c ∈ o)))
theorem v_has_signs (cs f o : List Nat) (μ : Store) (hl : cs.length < 1000000) : m_has_signs [.str (S cs), .str (S f), .str (S o)] μ = some (.bl (hasS cs f o), μ) := by
  have hz : cs.length ≤ sizeLine := by rw [size_eq]; omega
  obtain ⟨ex, h⟩ := all_signs (cs := cs) (ρ := [some (.str (S cs)), some (.str (S f)), some (.str (S o)), none]) (ρ' := [some (.str (S cs)), some (.str (S f)), some (.str (S o)), none]) (i := 3) (e := evCmp (dIn false) (evVar 3) (evVar 2)) (μ := μ) (fun c => decide (c ∈ o)) hl
    (fun c hc acc ex => ⟨ex, by simp [v_in_sign]⟩)
  cases cs with
  | nil =>
    refine trim0_eq (ex := []) ?_
    simp [ev_has_signs, startD, isiTys, isiB, v_len_str hz, hasS]
  | cons c r =>
    by_cases g2 : r.length + 1 ≤ 12
    · by_cases g3 : c ∈ f
      · refine trim0_eq (ex := ex) ?_
        simp [-kComp_s, ev_has_signs, startD, isiTys, isiB, v_len_str hz, hasS, g2, g3, show (1 : Int) ≤ (r.length : Int) + 1 by omega, show (r.length : Int) + 1 ≤ 12 by omega, v_ix_str hz, v_in_sign, h]
      · refine trim0_eq (ex := []) ?_
        simp [ev_has_signs, startD, isiTys, isiB, v_len_str hz, hasS, g2, g3, show (1 : Int) ≤ (r.length : Int) + 1 by omega, show (r.length : Int) + 1 ≤ 12 by omega, v_ix_str hz, v_in_sign]
    · refine trim0_eq (ex := []) ?_
      simp [ev_has_signs, startD, isiTys, isiB, v_len_str hz, hasS, g2, show (1 : Int) ≤ (r.length : Int) + 1 by omega, show ¬ (r.length : Int) + 1 ≤ 12 by omega]
def isInp (cs : List Nat) : Bool := hasS cs greatL (smallL ++ greatL ++ figL)
theorem len_great : greatL.length = 26 := by decide +kernel
theorem len_small : smallL.length = 26 := by decide +kernel
theorem v_is_input_name (cs : List Nat) (μ : Store) (hl : cs.length < 1000000) : m_is_input_name [.str (S cs)] μ = some (.bl (isInp cs), μ) := by
  refine trim0_eq (ex := []) ?_
  have a1 := fun (μ : Store) => v_add_str (μ := μ) (l := smallL) (m := greatL) (by rw [len_great, len_small, size_eq]; decide)
  have a2 := fun (μ : Store) => v_add_str (μ := μ) (l := smallL ++ greatL) (m := figL) (by rw [List.length_append, len_great, len_small, size_eq]; decide)
  simp [ev_is_input_name, startD, l_great, l_small, l_fig, a1, a2, v_has_signs _ _ _ _ hl, isInp, -List.append_assoc]
noncomputable def m_is_count := trim0 (runF N_is_count (ev_is_count m_is_integer) 1)
noncomputable def m_is_number := trim0 (runF N_is_number (ev_is_number m_is_count) 1)
noncomputable def m_is_row := trim0 (runF N_is_row ev_is_row 2)
theorem v_is_count (i : Int) (μ : Store) : m_is_count [.int i] μ = some (.bl (decide (0 ≤ i)), μ) := by
  refine trim0_eq (ex := []) ?_
  simp [ev_is_count, startD, v_is_integer_int]
def isN (i : Int) : Bool := decide (0 ≤ i) && decide (i < 1000000000000)
theorem v_is_number (i : Int) (μ : Store) : m_is_number [.int i] μ = some (.bl (isN i), μ) := by
  refine trim0_eq (ex := []) ?_
  by_cases h : 0 ≤ i <;> simp [ev_is_number, startD, v_is_count, isN, h]
theorem v_is_row (xs : List D) (n : Int) (μ : Store) : m_is_row [.tup xs, .int n] μ = some (.bl (decide ((xs.length : Int) = n)), μ) := by
  refine trim0_eq (ex := []) ?_
  simp [ev_is_row, startD, isiTys, isiB]
/-! ### records -/
inductive Rec where
  | prog (t : List Nat) | inp (t : List Nat) | set (nm : List Nat) (a b : Tel) | told (t : Tel) (n : Int) | kept (m n : Int)
namespace Rec
def d : Rec → D
  | .prog t => .tup [.str "program", .str (S t)]
  | .inp t => .tup [.str "inputs", .str (S t)]
  | .set nm a b => .tup [.str "set", .str (S nm), a.d, b.d]
  | .told t n => .tup [.str "told", t.d, .int n]
  | .kept m n => .tup [.str "kept", .int m, .int n]
def p : Rec → PyData
  | .prog t => .tuple [.str "program", .str (S t)]
  | .inp t => .tuple [.str "inputs", .str (S t)]
  | .set nm a b => .tuple [.str "set", .str (S nm), a.p, b.p]
  | .told t n => .tuple [.str "told", t.p, .int n]
  | .kept m n => .tuple [.str "kept", .int m, .int n]
/-- texts of plain signs, nothing too long -/
def Fit : Rec → Prop
  | .prog t => Asc t ∧ t.length < 1000000
  | .inp t => Asc t ∧ t.length < 1000000
  | .set nm a b => Asc nm ∧ nm.length < 1000000 ∧ a.size < 1000000 ∧ b.size < 1000000
  | .told t _ => t.size < 1000000
  | .kept _ _ => True
def Good : Rec → Prop
  | .prog t => isT 1 t = true
  | .inp t => isT 0 t = true
  | .set nm a b => isInp nm = true ∧ small a 2000 60 ∧ small b 2000 60
  | .told t n => t.high ≤ 60 ∧ okB t = true ∧ isN n = true
  | .kept m n => isN m = true ∧ isN n = true
def tag : Rec → String
  | .prog _ => "program"
  | .inp _ => "inputs"
  | .set _ _ _ => "set"
  | .told _ _ => "told"
  | .kept _ _ => "kept"
theorem pyD_d (r : Rec) : pyD r.d = some r.p := by
  cases r with
  | prog t => rfl
  | inp t => rfl
  | set nm a b => show (pyL [_, _, a.d, b.d]).map PyData.tuple = _; simp [Tel.pyD_d, p]
  | told t n => show (pyL [_, t.d, _]).map PyData.tuple = _; simp [Tel.pyD_d, p]
  | kept m n => rfl
theorem py0_d (μ : Store) (r : Rec) : py0 μ r.d = some r.p := by
  rw [← pyD_d r]
  cases r <;> rfl
theorem lay (r : Rec) (h : r.Fit) : r.p.canLay0 = true := by
  cases r with
  | prog t => simp [p, PyData.canLay0, PyData.canLayAll0, strOk_ofS, strOk_S h.1]
  | inp t => simp [p, PyData.canLay0, PyData.canLayAll0, strOk_ofS, strOk_S h.1]
  | set nm a b => simp [p, PyData.canLay0, PyData.canLayAll0, strOk_ofS, strOk_S h.1, Tel.lay]
  | told t n => simp [p, Tel.lay]
  | kept m n => simp [p]
theorem loc0 (r : Rec) : locB 0 r.d = true := by
  cases r <;> simp [d, locB, locsB, Tel.loc0]
theorem ix0 (r : Rec) (μ : Store) : dIx r.d (.int 0) μ = some (.str (Str.ofString r.tag), μ) := by cases r <;> simp [d, tag]
end Rec
end K73
set_option Elab.async false
set_option linter.all false
set_option maxRecDepth 100000
namespace K73
open PySem PySem.Spec PyProof.Rows L2 PDL SX Tel
/-! ### is_record_of -/
theorem py_dR (μ : Store) (r : Rec) : py μ r.d = some r.p := by
  cases r with
  | prog t => rfl
  | inp t => rfl
  | set nm a b =>
    show (pysM μ [_, _, a.d, b.d]).map PyData.tuple = _
    simp [pysM, Tel.py0_d, Rec.p]
    rfl
  | told t n =>
    show (pysM μ [_, t.d, _]).map PyData.tuple = _
    simp [pysM, Tel.py0_d, Rec.p]
    rfl
  | kept m n => rfl
theorem v_notEmptyR (r : Rec) (μ : Store) (h : r.Fit) : dEqv false r.d (.tup []) μ = some false := by
  rw [v_eq (py_dR μ r) (q := .tuple []) rfl (r.lay h) rfl (by simp; omega)]
  cases r <;> simp [Rec.p]
noncomputable def m_is_record_of := trim0 (runF N_is_record_of (ev_is_record_of m_is_row m_is_text m_is_input_name m_is_data_of m_is_telling_of m_is_number) 1)
theorem v_is_record_of (r : Rec) (μ : Store) (h : r.Fit) : ∃ b, m_is_record_of [r.d] μ = some (.bl b, μ) ∧ (r.Good → b = true) := by
  have hne := v_notEmptyR r μ h
  cases r with
  | prog t =>
    refine ⟨isT 1 t, trim0_eq (ex := []) ?_, fun g => g⟩
    simp only [Rec.d] at hne ⊢
    simp [ev_is_record_of, startD, isiTys, isiB, hne, sz2, v_is_row, v_is_text t _ _ h.1 h.2]
  | inp t =>
    refine ⟨isT 0 t, trim0_eq (ex := []) ?_, fun g => g⟩
    simp only [Rec.d] at hne ⊢
    simp [ev_is_record_of, startD, isiTys, isiB, hne, sz2, v_is_row, v_is_text t _ _ h.1 h.2]
  | set nm a b =>
    obtain ⟨b1, h1, g1⟩ := v_is_data_of a μ h.2.2.1
    obtain ⟨b2, h2, g2⟩ := v_is_data_of b μ h.2.2.2
    refine ⟨isInp nm && (b1 && b2), trim0_eq (ex := []) ?_, fun g => ?_⟩
    · simp only [Rec.d] at hne ⊢
      cases hi : isInp nm <;> cases b1 <;> simp [ev_is_record_of, startD, isiTys, isiB, hne, sz2, v_is_row, v_is_input_name nm _ h.2.1, h1, h2, hi]
    · obtain ⟨q1, q2, q3⟩ := g
      rw [q1, g1 q2, g2 q3]
      rfl
  | told t n =>
    obtain ⟨b1, h1, g1⟩ := v_is_telling_of t μ h
    refine ⟨b1 && isN n, trim0_eq (ex := []) ?_, fun g => ?_⟩
    · simp only [Rec.d] at hne ⊢
      cases b1 <;> simp [ev_is_record_of, startD, isiTys, isiB, hne, sz2, v_is_row, h1, v_is_number]
    · obtain ⟨q1, q2, q3⟩ := g
      rw [g1 ⟨q1, q2⟩, q3]
      rfl
  | kept m n =>
    refine ⟨isN m && isN n, trim0_eq (ex := []) ?_, fun g => by rw [g.1, g.2]; rfl⟩
    simp only [Rec.d] at hne ⊢
    cases hi : isN m <;> simp [ev_is_record_of, startD, isiTys, isiB, hne, sz2, v_is_row, v_is_number, hi]
/-! ### word_of -/
noncomputable def m_word_of : Nat → List D → Store → Option (D × Store)
  | 0 => fun _ _ => none
  | j + 1 => trim0 (runF N_word_of (ev_word_of (m_word_of j)) 1)
def w : Tel → List Nat
  | .int i => 105 :: (showL i ++ [59])
  | .bl true => [116]
  | .bl false => [102]
  | .unit => [117]
  | .nil => [110]
  | .fn => [70]
  | .pair a b => 112 :: (w a ++ w b)
  | .cons a b => 99 :: (w a ++ w b)
theorem isI_abs {i : Int} (h : isI i = true) : i.natAbs < 10 ^ 20 := by
  unfold isI at h
  simp only [Bool.and_eq_true, decide_eq_true_eq] at h
  have : (10 : Nat) ^ 20 = 100000000000000000000 := by decide
  omega
theorem w_len : ∀ t : Tel, okB t = true → (w t).length ≤ 30 * t.size
  | .int i, h => by
    have := showL_len (isI_abs h)
    simp [w, size]
    omega
  | .bl true, _ => by simp [w, size]
  | .bl false, _ => by simp [w, size]
  | .unit, _ => by simp [w, size]
  | .nil, _ => by simp [w, size]
  | .fn, _ => by simp [w, size]
  | .pair a b, h => by
    simp only [okB, Bool.and_eq_true] at h
    have h1 := w_len a h.1
    have h2 := w_len b h.2
    simp [w, size]
    omega
  | .cons a b, h => by
    simp only [okB, Bool.and_eq_true] at h
    have h1 := w_len a h.1
    have h2 := w_len b h.2
    simp [w, size]
    omega
def plainIx : Tel → Option Nat
  | .bl true => some 0
  | .bl false => some 1
  | .unit => some 2
  | .nil => some 3
  | .fn => some 4
  | _ => none
def plainV : Nat → D
  | 0 => .tup [.str "bool", .bl true]
  | 1 => .tup [.str "bool", .bl false]
  | 2 => .tup [.str "unit"]
  | 3 => .tup [.str "nil"]
  | _ => .tup [.str "fun"]
def plainK : Nat → Str
  | 0 => "t"
  | 1 => "f"
  | 2 => "u"
  | 3 => "n"
  | _ => "F"
theorem plain_get (i : Nat) (h : i < 5) : tget tab_PLAIN (plainK i) = some (plainV i) := by
  match i, h with
  | 0, _ => rfl
  | 1, _ => rfl
  | 2, _ => rfl
  | 3, _ => rfl
  | 4, _ => rfl
theorem plain_at (i : Nat) (h : i < 5) : (tab_PLAIN.map fun p => D.str p.1)[i]? = some (.str (plainK i)) := by
  match i, h with
  | 0, _ => rfl
  | 1, _ => rfl
  | 2, _ => rfl
  | 3, _ => rfl
  | 4, _ => rfl
def plainP : Nat → PyData
  | 0 => .tuple [.str "bool", .bool true]
  | 1 => .tuple [.str "bool", .bool false]
  | 2 => .tuple [.str "unit"]
  | 3 => .tuple [.str "nil"]
  | _ => .tuple [.str "fun"]
theorem plain_eq (t : Tel) (i : Nat) (h : i < 5) (μ : Store) : dEqv false (plainV i) t.d μ = some (decide (plainIx t = some i)) := by
  have h1 : py μ (plainV i) = some (plainP i) := by
    match i, h with
    | 0, _ => rfl
    | 1, _ => rfl
    | 2, _ => rfl
    | 3, _ => rfl
    | 4, _ => rfl
  rw [v_eq h1 (py_d μ t) (by match i, h with | 0, _ => simp [plainP] | 1, _ => simp [plainP] | 2, _ => simp [plainP] | 3, _ => simp [plainP] | 4, _ => simp [plainP]) t.lay
    (by match i, h with | 0, _ => (simp [plainP]; omega) | 1, _ => (simp [plainP]; omega) | 2, _ => (simp [plainP]; omega) | 3, _ => (simp [plainP]; omega) | 4, _ => (simp [plainP]; omega))]
  match i, h with
  | 0, _ => cases t with
    | bl b => cases b <;> simp [plainP, p, plainIx, PyData.eqv]
    | _ => simp [plainP, p, plainIx]
  | 1, _ => cases t with
    | bl b => cases b <;> simp [plainP, p, plainIx, PyData.eqv]
    | _ => simp [plainP, p, plainIx]
  | 2, _ => cases t with
    | bl b => cases b <;> simp [plainP, p, plainIx, PyData.eqv]
    | _ => simp [plainP, p, plainIx]
  | 3, _ => cases t with
    | bl b => cases b <;> simp [plainP, p, plainIx, PyData.eqv]
    | _ => simp [plainP, p, plainIx]
  | 4, _ => cases t with
    | bl b => cases b <;> simp [plainP, p, plainIx, PyData.eqv]
    | _ => simp [plainP, p, plainIx]
theorem plain_for (t : Tel) (x : Option D) (μ : Store) : (∃ i, i < 5 ∧ plainIx t = some i ∧ evFor (eiKeys tab_PLAIN) (egName 1) (evIfS (evTCmp (dEqv false) (evKIx tab_PLAIN (evVar 1)) (evVar 0)) (evRet (evVar 1)) evNx) [some t.d, x] μ = some (.rt (.str (plainK i)), [some t.d, some (.str (plainK i))], μ)) ∨
    (plainIx t = none ∧ ∃ y, evFor (eiKeys tab_PLAIN) (egName 1) (evIfS (evTCmp (dEqv false) (evKIx tab_PLAIN (evVar 1)) (evVar 0)) (evRet (evVar 1)) evNx) [some t.d, x] μ = some (.nx, [some t.d, y], μ)) := by
  obtain ⟨r, hr, hR⟩ := for_run (it := eiKeys tab_PLAIN) (g := egName 1) (b := evIfS (evTCmp (dEqv false) (evKIx tab_PLAIN (evVar 1)) (evVar 0)) (evRet (evVar 1)) evNx) (ρ := [some t.d, x]) (μ := μ) (μ1 := μ) (rd := rdList (tab_PLAIN.map fun p => .str p.1)) 5
    (fun i ρ μ' => i ≤ 5 ∧ μ' = μ ∧ (∃ y, ρ = [some t.d, y]) ∧ ∀ j, j < i → plainIx t ≠ some j)
    (fun r => (∃ i, i < 5 ∧ plainIx t = some i ∧ r = (.rt (.str (plainK i)), [some t.d, some (.str (plainK i))], μ)) ∨ ((∀ j, j < 5 → plainIx t ≠ some j) ∧ ∃ y, r = (.nx, [some t.d, y], μ)))
    rfl (by decide) ⟨Nat.zero_le _, rfl, ⟨x, rfl⟩, fun j hj => absurd hj (Nat.not_lt_zero _)⟩
    (by
      rintro i ρ μ' ⟨hi, rfl, ⟨y, rfl⟩, hno⟩
      refine ⟨hi, ?_⟩
      by_cases h5 : i = 5
      · subst h5
        exact .inl ⟨rfl, .inr ⟨hno, y, rfl⟩⟩
      · have hlt : i < 5 := by omega
        refine .inr ⟨hlt, .str (plainK i), [some t.d, some (.str (plainK i))], μ', if plainIx t = some i then .rt (.str (plainK i)) else .nx, [some t.d, some (.str (plainK i))], μ', by show some _ = _; rw [plain_at i hlt], rfl, ?_, ?_⟩
        · by_cases hp : plainIx t = some i <;> simp [plain_get i hlt, plain_eq t i hlt, hp]
        · by_cases hp : plainIx t = some i
          · rw [if_pos hp]
            exact .inl ⟨i, hlt, hp, rfl⟩
          · rw [if_neg hp]
            refine ⟨by omega, rfl, ⟨_, rfl⟩, fun j hj => ?_⟩
            by_cases hji : j = i
            · rw [hji]; exact hp
            · exact hno j (by omega))
  rcases hR with ⟨i, h1, h2, rfl⟩ | ⟨h1, y, rfl⟩
  · exact .inl ⟨i, h1, h2, hr⟩
  · refine .inr ⟨?_, y, hr⟩
    have g0 := h1 0 (by decide)
    have g1 := h1 1 (by decide)
    have g2 := h1 2 (by decide)
    have g3 := h1 3 (by decide)
    have g4 := h1 4 (by decide)
    cases t with
    | bl b => cases b <;> simp_all [plainIx]
    | _ => simp_all [plainIx]
theorem plain_w (t : Tel) (i : Nat) (h : plainIx t = some i) : plainK i = S (w t) := by
  cases t with
  | bl b => cases b <;> cases h <;> first | exact l_t | exact l_f
  | unit => cases h; exact l_u
  | nil => cases h; exact l_n
  | fn => cases h; exact l_F
  | _ => cases h
theorem v_word_of : ∀ (j : Nat) (t : Tel) (μ : Store), t.high ≤ j → okB t = true → t.size ≤ 100000 → m_word_of j [t.d] μ = some (.str (S (w t)), μ)
  | 0, t, μ, h, _, _ => by have := high_pos t; omega
  | j + 1, t, μ, hh, ho, hs => by
    refine trim0_eq (ex := []) ?_
    by_cases hint : ∃ i, t = .int i
    · obtain ⟨i, rfl⟩ := hint
      have hl := showL_len (isI_abs ho)
      have a1 := fun (μ : Store) => v_add_str (μ := μ) (l := [105]) (m := showL i) (by rw [size_eq]; simp only [List.length_cons, List.length_nil]; omega)
      have a2 := fun (μ : Store) => v_add_str (μ := μ) (l := 105 :: showL i) (m := [59]) (by rw [size_eq]; simp only [List.length_cons, List.length_nil]; omega)
      simp [ev_word_of, startD, d, l_i, l_sc, dStr_S (isI_abs ho), a1, a2, w]
    · have htag : decide (K73.tag t = "int") = false := by
        cases t <;> first | exact absurd ⟨_, rfl⟩ hint | rfl
      rcases plain_for t none μ with ⟨i, _, hp, hf⟩ | ⟨hp, y, hf⟩
      · have htag' : ¬ K73.tag t = "int" := of_decide_eq_false htag
        rw [plain_w t i hp] at hf
        simp [ev_word_of, startD, v_ix0, hf, htag']
      · cases t with
        | int i => exact absurd ⟨i, rfl⟩ hint
        | bl b => cases b <;> cases hp
        | unit => cases hp
        | nil => cases hp
        | fn => cases hp
        | pair a b =>
          simp only [okB, Bool.and_eq_true] at ho
          simp only [size] at hs
          simp only [high] at hh
          have e1 := fun μ => v_word_of j a μ (by omega) ho.1 (by omega)
          have e2 := fun μ => v_word_of j b μ (by omega) ho.2 (by omega)
          have l1 := w_len a ho.1
          have l2 := w_len b ho.2
          have a1 := fun (μ : Store) => v_add_str (μ := μ) (l := [112]) (m := w a) (by rw [size_eq]; simp only [List.length_cons, List.length_nil]; omega)
          have a2 := fun (μ : Store) => v_add_str (μ := μ) (l := 112 :: w a) (m := w b) (by rw [size_eq]; simp only [List.length_cons, List.length_nil]; omega)
          simp only [d] at hf
          simp [ev_word_of, startD, d, hf, l_p, e1, e2, a1, a2, w]
        | cons a b =>
          simp only [okB, Bool.and_eq_true] at ho
          simp only [size] at hs
          simp only [high] at hh
          have e1 := fun μ => v_word_of j a μ (by omega) ho.1 (by omega)
          have e2 := fun μ => v_word_of j b μ (by omega) ho.2 (by omega)
          have l1 := w_len a ho.1
          have l2 := w_len b ho.2
          have a1 := fun (μ : Store) => v_add_str (μ := μ) (l := [99]) (m := w a) (by rw [size_eq]; simp only [List.length_cons, List.length_nil]; omega)
          have a2 := fun (μ : Store) => v_add_str (μ := μ) (l := 99 :: w a) (m := w b) (by rw [size_eq]; simp only [List.length_cons, List.length_nil]; omega)
          simp only [d] at hf
          simp [ev_word_of, startD, d, hf, l_c, e1, e2, a1, a2, w]
/-! ### sum_of_signs -/
noncomputable def m_sum_of_signs := trim0 (runF N_sum_of_signs ev_sum_of_signs 1)
def sg (p : Int × Int) (c : Nat) : Int × Int := ((p.1 + c) % 9973, (p.2 + (p.1 + c) % 9973) % 9973)
def sgs (cs : List Nat) : Int × Int := cs.foldl sg (1, 0)
def sumI (cs : List Nat) : Int := (sgs cs).2 * 9973 + (sgs cs).1
theorem sgs_snoc (cs : List Nat) (c : Nat) : sgs (cs ++ [c]) = sg (sgs cs) c := by simp [sgs]
theorem sgs_lt (cs : List Nat) : 0 ≤ (sgs cs).1 ∧ (sgs cs).1 < 9973 ∧ 0 ≤ (sgs cs).2 ∧ (sgs cs).2 < 9973 := by
  have key : ∀ (l : List Nat) (p : Int × Int), 0 ≤ p.1 ∧ p.1 < 9973 ∧ 0 ≤ p.2 ∧ p.2 < 9973 → (let q := l.foldl sg p; 0 ≤ q.1 ∧ q.1 < 9973 ∧ 0 ≤ q.2 ∧ q.2 < 9973) := by
    intro l
    induction l with
    | nil => exact fun p h => h
    | cons c r ih =>
      intro p h
      refine ih (sg p c) ?_
      simp only [sg]
      omega
  exact key cs (1, 0) (by decide)
theorem sumI_lt (cs : List Nat) : 0 ≤ sumI cs ∧ sumI cs < 100000000 := by
  have h := sgs_lt cs
  unfold sumI
  omega
theorem v_ord (c : Nat) (μ : Store) : dOrd [.str (S [c])] μ = some (.int c, μ) := rfl
theorem v_sum_of_signs (cs : List Nat) (μ : Store) (hl : cs.length < 1000000) : m_sum_of_signs [.str (S cs)] μ = some (.int (sumI cs), μ) := by
  refine trim0_eq (ex := []) ?_
  have hlen : (strs1 (S cs)).length = cs.length := by rw [strs1_S, List.length_map]
  obtain ⟨r, hr, hR⟩ := for_run (it := eiStr (evVar 0)) (g := egName 3) (b := evSeq (evAsg (evBin dMod (evBin dAdd (evVar 1) (evCall dOrd (evCons (evVar 3) evNil))) (evC (.int (9973)))) (egName 1)) (evAsg (evBin dMod (evBin dAdd (evVar 2) (evVar 1)) (evC (.int (9973)))) (egName 2)))
    (ρ := [some (.str (S cs)), some (.int 1), some (.int 0), none]) (μ := μ) (μ1 := μ) (rd := rdList (strs1 (S cs))) cs.length
    (fun i ρ μ' => i ≤ cs.length ∧ μ' = μ ∧ ∃ y, ρ = [some (.str (S cs)), some (.int (sgs (cs.take i)).1), some (.int (sgs (cs.take i)).2), y])
    (fun r => ∃ y, r = (.nx, [some (.str (S cs)), some (.int (sgs cs).1), some (.int (sgs cs).2), y], μ))
    rfl (by omega) ⟨Nat.zero_le _, rfl, none, rfl⟩
    (by
      rintro i ρ μ' ⟨hi, rfl, y, rfl⟩
      refine ⟨hi, ?_⟩
      cases q : cs[i]? with
      | none =>
        have hge : cs.length ≤ i := List.getElem?_eq_none_iff.mp q
        refine .inl ⟨?_, y, by rw [List.take_of_length_le hge]⟩
        show some ((strs1 (S cs))[i]?) = some none
        rw [List.getElem?_eq_none (by rw [hlen]; exact hge)]
      | some c =>
        have hlt : i < cs.length := (List.getElem?_eq_some_iff.mp q).1
        have et : cs.take (i + 1) = cs.take i ++ [c] := by rw [List.take_add_one, q]; rfl
        refine .inr ⟨hlt, .str (S [c]), [some (.str (S cs)), some (.int (sgs (cs.take i)).1), some (.int (sgs (cs.take i)).2), some (.str (S [c]))], μ', .nx, [some (.str (S cs)), some (.int (sgs (cs.take (i + 1))).1), some (.int (sgs (cs.take (i + 1))).2), some (.str (S [c]))], μ', ?_, rfl, ?_, by omega, rfl, _, rfl⟩
        · show some ((strs1 (S cs))[i]?) = _
          rw [strs1_S, List.getElem?_map, q]
          rfl
        · have hm : ∀ (a : Int) (μ : Store), dMod (.int a) (.int 9973) μ = some (.int (a % 9973), μ) := fun a μ => v_mod_int (by decide)
          rw [et, sgs_snoc]
          simp [v_ord, hm, sg])
  obtain ⟨y, rfl⟩ := hR
  have hmul : ∀ μ : Store, dMul (.int (sgs cs).2) (.int 9973) μ = some (.int ((sgs cs).2 * 9973), μ) := fun μ => v_mul_int (.inr ⟨by decide, by decide⟩)
  simp [ev_sum_of_signs, startD, sz2, hr, hmul, sumI]
end K73
set_option Elab.async false
set_option linter.all false
set_option maxRecDepth 100000
namespace K73
open PySem PySem.Spec PyProof.Rows L2 PDL SX Tel
/-! ### replace of one sign -/
def rp (a b : Nat) (t : List Nat) : List Nat := t.map fun c => if c = a then b else c
theorem replL_rp (a b : Nat) : ∀ t : List Nat, PySem.StrLaws.replL [a] [b] t = rp a b t
  | [] => PySem.StrLaws.replL_nil
  | c :: r => by
    by_cases h : c = a
    · subst h
      rw [PySem.StrLaws.replL_hit (by simp) (by simp)]
      show [b] ++ PySem.StrLaws.replL [c] [b] r = _
      rw [replL_rp c b r]
      simp [rp]
    · rw [PySem.StrLaws.replL_miss (by simpa using h), replL_rp a b r]
      simp [rp, h]
theorem repl_S (a b : Nat) (t : List Nat) : Txt.replace (S t) (S [a]) (S [b]) = S (rp a b t) := by
  refine TL.ext_tl ?_
  show (Txt.replace (S t) (S [a]) (S [b])).cps.toList = rp a b t
  rw [PySem.StrLaws.replace_list (by rw [S_len]; exact Nat.le_refl _)]
  exact replL_rp a b t
/-! ### parts_of, line_of -/
def tgL (x : String) : List Nat := (Str.ofString x).cps.toList
theorem tgS (x : String) : Str.ofString x = S (tgL x) := (S_tl _).symm
def TSm (t : Tel) : Prop := okB t = true ∧ t.size ≤ 20 ∧ t.high ≤ 8
namespace Rec
def Sm : Rec → Prop
  | .prog t => t.length ≤ 1000 ∧ Asc t
  | .inp t => t.length ≤ 1000 ∧ Asc t
  | .set nm a b => nm.length ≤ 100 ∧ Asc nm ∧ TSm a ∧ TSm b
  | .told t n => TSm t ∧ n.natAbs < 10 ^ 20
  | .kept m n => m.natAbs < 10 ^ 20 ∧ n.natAbs < 10 ^ 20
def parts : Rec → List (List Nat)
  | .prog t => [tgL "program", rp 10 92 t]
  | .inp t => [tgL "inputs", rp 10 92 t]
  | .set nm a b => [tgL "set", nm, w a, w b]
  | .told t n => [tgL "told", w t, showL n]
  | .kept m n => [tgL "kept", showL m, showL n]
theorem Sm.fit {r : Rec} (h : r.Sm) : r.Fit := by
  cases r with
  | prog t => exact ⟨h.2, by have := h.1; omega⟩
  | inp t => exact ⟨h.2, by have := h.1; omega⟩
  | set nm a b => exact ⟨h.2.1, by have := h.1; omega, by have := h.2.2.1.2.1; omega, by have := h.2.2.2.2.1; omega⟩
  | told t n => exact Nat.lt_of_le_of_lt h.1.2.1 (by decide)
  | kept m n => trivial
end Rec
theorem tg_len : (tgL "program").length = 7 ∧ (tgL "inputs").length = 6 ∧ (tgL "set").length = 3 ∧ (tgL "told").length = 4 ∧ (tgL "kept").length = 4 := by decide +kernel
theorem parts_len (r : Rec) (h : r.Sm) : (r.parts.map List.length).sum ≤ 1500 ∧ r.parts.length ≤ 4 := by
  obtain ⟨h1, h2, h3, h4, h5⟩ := tg_len
  cases r with
  | prog t =>
    have := h.1
    simp [Rec.parts, h1, rp]
    omega
  | inp t =>
    have := h.1
    simp [Rec.parts, h2, rp]
    omega
  | set nm a b =>
    obtain ⟨g1, _, g2, g3⟩ := h
    have l1 := w_len a g2.1
    have l2 := w_len b g3.1
    have l3 := g2.2.1
    have l4 := g3.2.1
    simp [Rec.parts, h3]
    omega
  | told t n =>
    have l1 := w_len t h.1.1
    have l2 := h.1.2.1
    have l3 := showL_len h.2
    simp [Rec.parts, h4]
    omega
  | kept m n =>
    have l3 := showL_len h.1
    have l4 := showL_len h.2
    simp [Rec.parts, h5]
    omega
noncomputable def m_parts_of := runF N_parts_of (ev_parts_of (m_word_of 8)) 1
theorem v_parts_of (r : Rec) (μ : Store) (h : r.Sm) : m_parts_of [r.d] μ = some (.loc μ.length, μ ++ [.lst (r.parts.map fun l => .str (S l))]) := by
  have s4 : (4 : Nat) ≤ sizeLine := by decide
  have s3 : (3 : Nat) ≤ sizeLine := by decide
  unfold m_parts_of
  cases r with
  | prog t =>
    have l1 : (S t).length + ((S t).length + 1) * (S [92]).length ≤ 16777216 := by
      rw [S_len, S_len]
      have := h.1
      simp
      omega
    simp [ev_parts_of, startD, Rec.d, l_nl, l_bs, l1, repl_S, sz2, Rec.parts]
    simp [tgS "program"]
  | inp t =>
    have l1 : (S t).length + ((S t).length + 1) * (S [92]).length ≤ 16777216 := by
      rw [S_len, S_len]
      have := h.1
      simp
      omega
    simp [ev_parts_of, startD, Rec.d, l_nl, l_bs, l1, repl_S, sz2, Rec.parts]
    simp [tgS "inputs"]
  | set nm a b =>
    obtain ⟨_, _, ⟨a1, a2, a3⟩, ⟨b1, b2, b3⟩⟩ := h
    simp [ev_parts_of, startD, Rec.d, v_word_of 8 a _ a3 a1 (by omega), v_word_of 8 b _ b3 b1 (by omega), s4, sz2, Rec.parts]
    simp [tgS "set"]
  | told t n =>
    obtain ⟨⟨a1, a2, a3⟩, hn⟩ := h
    simp [ev_parts_of, startD, Rec.d, v_word_of 8 t _ a3 a1 (by omega), dStr_S hn, s3, sz2, Rec.parts]
    simp [tgS "told"]
  | kept m n =>
    simp [ev_parts_of, startD, Rec.d, dStr_S h.1, dStr_S h.2, s3, sz2, Rec.parts]
    simp [tgS "kept"]
theorem joinL_len (k : List Nat) : ∀ ls : List (List Nat), (TL.joinL k ls).length ≤ (ls.map List.length).sum + ls.length * k.length
  | [] => Nat.zero_le _
  | [x] => by show x.length ≤ _; simp
  | x :: y :: r => by
    have h := joinL_len k (y :: r)
    show (x ++ (k ++ TL.joinL k (y :: r))).length ≤ _
    simp only [List.length_append, List.map_cons, List.sum_cons, List.length_cons, Nat.succ_mul] at h ⊢
    omega
def head (n : Int) (r : Rec) : List Nat := TL.joinL [32] (showL n :: r.parts)
def line0 (n : Int) (r : Rec) : List Nat := head n r ++ 32 :: showL (sumI (head n r))
def line (n : Int) (r : Rec) : List Nat := line0 n r ++ [10]
theorem head_len (n : Int) (r : Rec) (hn : n.natAbs < 10 ^ 20) (h : r.Sm) : (head n r).length ≤ 1600 := by
  have h1 := joinL_len [32] (showL n :: r.parts)
  obtain ⟨h2, h3⟩ := parts_len r h
  have h4 := showL_len hn
  simp only [List.map_cons, List.sum_cons, List.length_cons, List.length_nil] at h1
  unfold head
  omega
theorem sumI_abs (l : List Nat) : (sumI l).natAbs < 10 ^ 20 := by
  have h := sumI_lt l
  have : (10 : Nat) ^ 20 = 100000000000000000000 := by decide
  omega
theorem line_len (n : Int) (r : Rec) (hn : n.natAbs < 10 ^ 20) (h : r.Sm) : (line n r).length ≤ 1700 := by
  have h1 := head_len n r hn h
  have h2 := showL_len (sumI_abs (head n r))
  simp only [line, line0, List.length_append, List.length_cons, List.length_nil]
  omega
noncomputable def m_line_of := trim0 (runF N_line_of (ev_line_of m_parts_of m_sum_of_signs) 2)
theorem v_line_of (n : Int) (r : Rec) (μ : Store) (hn : n.natAbs < 10 ^ 20) (h : r.Sm) : m_line_of [.int n, r.d] μ = some (.str (S (line n r)), μ) := by
  have hl := head_len n r hn h
  obtain ⟨p1, p2⟩ := parts_len r h
  have h4 := showL_len hn
  have h5 := showL_len (sumI_abs (head n r))
  have g1 : ((μ ++ [MO.lst [.str (S (showL n))]]) ++ [MO.lst (r.parts.map fun l => .str (S l))])[μ.length]? = some (.lst [.str (S (showL n))]) := by rw [List.append_assoc]; exact get_last
  have g2 : ((μ ++ [MO.lst [.str (S (showL n))]]) ++ [MO.lst (r.parts.map fun l => .str (S l))])[(μ ++ [MO.lst [.str (S (showL n))]]).length]? = some (.lst (r.parts.map fun l => .str (S l))) := get_last
  have hadd := v_add_loc g1 g2 (by
    rw [size_eq]
    simp only [List.length_map, List.length_cons, List.length_nil]
    omega)
  have hj := v_join (μ := ((μ ++ [MO.lst [.str (S (showL n))]]) ++ [MO.lst (r.parts.map fun l => .str (S l))]) ++ [.lst ([.str (S (showL n))] ++ r.parts.map fun l => .str (S l))]) (n := ((μ ++ [MO.lst [.str (S (showL n))]]) ++ [MO.lst (r.parts.map fun l => .str (S l))]).length) (k := [32]) (ls := showL n :: r.parts) get_last
    (by
      simp only [List.map_cons, List.sum_cons, List.length_cons, List.length_nil]
      omega)
  have a1 := fun (μ : Store) => v_add_str (μ := μ) (l := head n r) (m := [32]) (by rw [size_eq]; simp only [List.length_cons, List.length_nil]; omega)
  have a2 := fun (μ : Store) => v_add_str (μ := μ) (l := head n r ++ [32]) (m := showL (sumI (head n r))) (by rw [size_eq]; simp only [List.length_append, List.length_cons, List.length_nil]; omega)
  have a3 := fun (μ : Store) => v_add_str (μ := μ) (l := head n r ++ 32 :: showL (sumI (head n r))) (m := [10]) (by rw [size_eq]; simp only [List.length_append, List.length_cons, List.length_nil]; omega)
  have hs := fun (μ : Store) => v_sum_of_signs (head n r) μ (by omega)
  have hd := fun (μ : Store) => dStr_S (sumI_abs (head n r)) μ
  simp only [List.append_assoc, List.cons_append, List.nil_append, List.length_append, List.length_cons, List.length_nil] at hadd hj a1 a2 a3
  have ht : TL.joinL [32] (showL n :: r.parts) = head n r := rfl
  rw [ht] at hj
  refine trim0_eq (ex := [MO.lst [.str (S (showL n))], MO.lst (r.parts.map fun l => .str (S l)), .lst (.str (S (showL n)) :: r.parts.map fun l => .str (S l))]) ?_
  simp [ev_line_of, startD, l_sp, l_nl, dStr_S hn, sz1, v_parts_of r _ h, hadd, hj, a1, a2, a3, hs, hd, line, line0]
noncomputable def m_record_line := trim0 (runF N_record_line (ev_record_line m_is_number m_is_record_of m_line_of) 2)
theorem isN_abs {n : Int} (h : isN n = true) : n.natAbs < 10 ^ 20 := by
  unfold isN at h
  simp only [Bool.and_eq_true, decide_eq_true_eq] at h
  have : (10 : Nat) ^ 20 = 100000000000000000000 := by decide
  omega
theorem v_record_line (n : Int) (r : Rec) (μ : Store) (hn : isN n = true) (h : r.Sm) (hg : r.Good) : m_record_line [.int n, r.d] μ = some (.str (S (line n r)), μ) := by
  obtain ⟨b, h1, h2⟩ := v_is_record_of r μ h.fit
  rw [h2 hg] at h1
  refine trim0_eq (ex := []) ?_
  simp [ev_record_line, startD, v_is_number, hn, h1, v_line_of n r μ (isN_abs hn) h]
end K73
set_option Elab.async false
set_option linter.all false
set_option maxRecDepth 100000
namespace K73
open PySem PySem.Spec PyProof.Rows L2 PDL SX Tel
/-- a comprehension over all, item by item -/
theorem comp_all {rd : Rd1} {g : D → PDL.Env → Option PDL.Env} {e : Ev} {ρ : PDL.Env} (xs ys : List D) (μ0 : Store) (hxy : xs.length = ys.length) (hrd : ∀ (i : Nat) (acc : List D) (ex : Store), rd i (μ0 ++ .lst acc :: ex) = some xs[i]?) (hl : xs.length < sizeLine)
    (h : ∀ (i : Nat) (d y : D), xs[i]? = some d → ys[i]? = some y → ∃ ρ1, g d ρ = some ρ1 ∧ ∀ (acc : List D) (ex : Store), ∃ ex', e ρ1 (μ0 ++ .lst acc :: ex) = some (y, μ0 ++ .lst acc :: ex')) :
    ∃ ex, compN rd g evYes e μ0.length FUEL 0 ρ (μ0 ++ [.lst []]) = some (μ0 ++ .lst ys :: ex) := by
  have hF : xs.length < 0 + FUEL := by
    rw [fuel_eq]
    rw [size_eq] at hl
    omega
  obtain ⟨acc', μ', h1, h2⟩ := comp_gen (rd := rd) (g := g) (t := evYes) (e := e) (n := μ0.length) (ρ := ρ) xs.length
    (fun i acc μ => i ≤ xs.length ∧ acc = ys.take i ∧ ∃ ex, μ = μ0 ++ .lst acc :: ex) (fun acc μ => ∃ ex, μ = μ0 ++ .lst ys :: ex)
    (fun i acc μ ⟨hi, ha, ex, hm⟩ => ⟨hi, by
      subst hm
      cases q : xs[i]? with
      | none =>
        have hi2 : xs.length ≤ i := List.getElem?_eq_none_iff.mp q
        refine .inl ⟨by rw [hrd, q], ex, ?_⟩
        rw [ha, List.take_of_length_le (by omega)]
      | some d =>
        have hi2 : i < xs.length := (List.getElem?_eq_some_iff.mp q).1
        obtain ⟨y, hy⟩ : ∃ y, ys[i]? = some y := ⟨ys[i]'(by omega), List.getElem?_eq_getElem (by omega)⟩
        obtain ⟨ρ1, h1, h2⟩ := h i d y q hy
        obtain ⟨ex', h5⟩ := h2 acc ex
        have et : ys.take (i + 1) = ys.take i ++ [y] := by rw [List.take_add_one, hy]; rfl
        refine .inr ⟨hi2, d, ρ1, true, _, by rw [hrd, q], h1, rfl, fun hb => absurd hb (by decide), fun _ => ⟨y, _, h5, get_last, ?_, hi2, by rw [et, ha], ex', set_last⟩⟩
        have : acc.length ≤ xs.length := by
          rw [ha, List.length_take]
          omega
        omega⟩)
    FUEL 0 [] (μ0 ++ [.lst []]) hF ⟨Nat.zero_le _, rfl, [], rfl⟩
  obtain ⟨ex, rfl⟩ := h2
  exact ⟨ex, h1⟩
def enu (xs : List D) : List D := xs.mapIdx fun i d => .tup [.int (i : Nat), d]
theorem enu_len (xs : List D) : (enu xs).length = xs.length := by simp [enu]
theorem enu_rd {μ0 : Store} {n : Nat} {xs : List D} (h : μ0[n]? = some (.lst xs)) (i : Nat) (r : Store) : rdEnum n i (μ0 ++ r) = some (enu xs)[i]? := by
  have h2 : (μ0 ++ r)[n]? = some (.lst xs) := by rw [List.getElem?_append_left (List.getElem?_eq_some_iff.mp h).1]; exact h
  unfold rdEnum
  rw [h2]
  simp [enu, List.getElem?_mapIdx]
theorem enu_at {xs : List D} {i : Nat} {d : D} (h : (enu xs)[i]? = some d) : ∃ x, xs[i]? = some x ∧ d = .tup [.int (i : Nat), x] := by
  unfold enu at h
  rw [List.getElem?_mapIdx] at h
  obtain ⟨x, h1, h2⟩ := map_some h
  exact ⟨x, h1, h2.symm⟩
/-! ### what may follow -/
noncomputable def m_can_follow := trim0 (runF N_can_follow ev_can_follow 1)
theorem v_can_none (μ : Store) : m_can_follow [.non] μ = some (.tup [.str "program"], μ) := by
  refine trim0_eq (ex := []) ?_
  simp [ev_can_follow, startD, sz1]
def strsD (l : List String) : D := .tup (l.map fun x => .str (Str.ofString x))
theorem loc_strs (l : List String) : locB 0 (strsD l) = true := by
  have h : ∀ l : List String, locsB 0 (l.map fun x => D.str (Str.ofString x)) = true := fun l => by
    induction l with
    | nil => rfl
    | cons x r ih => simp [locsB, locB, ih]
  exact h l
def canF : Option String → List String
  | none => ["program"]
  | some x => if x = "inputs" then ["told"] else if x = "set" then ["set", "told"] else ["set", "program", "kept"]
theorem v_can_some (x : String) (μ : Store) : m_can_follow [.str (Str.ofString x)] μ = some (strsD (canF (some x)), μ) := by
  have hmem : ∀ (a b : String), ((Sum.inr (Str.ofString a) : Key) = Sum.inr (Str.ofString b)) = (a = b) := fun a b => propext ⟨fun h => (ofS_inj a b).mp (Sum.inr.inj h), fun h => by rw [h]⟩
  have e : evDGet2 (evDisp (((evC (.str "inputs")), (evTup (evCons (evC (.str "told")) evNil))) :: (((evC (.str "set")), (evTup (evCons (evC (.str "set")) (evCons (evC (.str "told")) evNil)))) :: []))) (evVar 0) (evTup (evCons (evC (.str "set")) (evCons (evC (.str "program")) (evCons (evC (.str "kept")) evNil)))) [some (.str (Str.ofString x))] μ
      = some (strsD (canF (some x)), μ ++ [.dk (mergeD [] [(.inr "inputs", .tup [.str "told"]), (.inr "set", .tup [.str "set", .str "told"])])]) := by
    have e1 : evDisp (((evC (.str "inputs")), (evTup (evCons (evC (.str "told")) evNil))) :: (((evC (.str "set")), (evTup (evCons (evC (.str "set")) (evCons (evC (.str "told")) evNil)))) :: [])) [some (.str (Str.ofString x))] μ = some (.loc μ.length, μ ++ [.dk (mergeD [] [(.inr "inputs", .tup [.str "told"]), (.inr "set", .tup [.str "set", .str "told"])])]) := by
      simp [evDisp, evPairs, keyD, sz1, sz2]
    unfold evDGet2
    rw [e1]
    simp [keyD, sz3, valD, mergeD, putD, hmem]
    by_cases h1 : x = "inputs"
    · simp [h1, canF, strsD]
    · by_cases h2 : x = "set"
      · simp [h2, canF, strsD, List.find?, hmem]
      · simp [h1, h2, canF, strsD, List.find?, hmem, Ne.symm h1, Ne.symm h2, show ¬ "inputs" = x from fun z => h1 z.symm, show ¬ "set" = x from fun z => h2 z.symm]
  refine trim0_eq (ex := [.dk (mergeD [] [(.inr "inputs", .tup [.str "told"]), (.inr "set", .tup [.str "set", .str "told"])])]) ?_ ?_
  · simp [ev_can_follow, startD]
    simp only [e]
    simp
  · exact loc_strs _
noncomputable def m_follows := trim0 (runF N_follows (ev_follows m_can_follow) 2)
def lastTag (xs : List Rec) : Option String := xs.getLast?.map Rec.tag
def fol (xs : List Rec) (r : Rec) : Bool := if xs.length = 1 then decide (r.tag = "inputs") else if lastTag xs = some "program" then decide (r.tag = "told") else decide (r.tag ∈ canF (lastTag xs))
theorem v_in_strsD (x : String) (l : List String) (μ : Store) : dIn false (.str (Str.ofString x)) (strsD l) μ = some (decide (x ∈ l)) := by
  unfold strsD
  rw [v_in_str]
  have e : pyL (l.map fun x => D.str (Str.ofString x)) = some (l.map fun x => PyData.str (Str.ofString x)) := pyL_map (fun _ => rfl) l
  have e2 : PyData.canLayAll0 (l.map fun x => PyData.str (Str.ofString x)) = true := lay_map (fun x => e_lay_str x) l
  rw [e]
  simp only [kIn_s, e_lay_str, e2, e_dep_str, Nat.zero_le, and_self, if_true, Bool.false_eq_true, if_false, List.any_map]
  congr 1
  induction l with
  | nil => rfl
  | cons a r ih =>
    rw [List.any_cons, ih (pyL_map (fun _ => rfl) r) (lay_map (fun x => e_lay_str x) r)]
    simp only [Function.comp, e_eqv_str]
    by_cases h : a = x
    · simp [h]
    · simp [h, show ¬ x = a from fun z => h z.symm]
theorem v_eq_non (x : String) (μ : Store) : dEqv false .non (.str (Str.ofString x)) μ = some false := by
  rw [v_eq (p := .none) (q := .str (Str.ofString x)) rfl rfl rfl (strOk_ofS x) (by simp)]
  simp [PyData.eqv]
theorem pyL_rec (l : List Rec) : pyL (l.map Rec.d) = some (l.map Rec.p) := pyL_map Rec.pyD_d l
theorem lay_rec : ∀ l : List Rec, (∀ r ∈ l, r.Fit) → PyData.canLayAll0 (l.map Rec.p) = true
  | [], _ => rfl
  | r :: l, h => by simp [Rec.lay r (h r (List.mem_cons_self ..)), lay_rec l fun x hx => h x (List.mem_cons_of_mem _ hx)]
theorem v_follows (xs : List Rec) (r : Rec) (μ : Store) (n : Nat) (hn : μ[n]? = some (.lst (xs.map Rec.d))) (hf : ∀ x ∈ xs, x.Fit) : m_follows [.loc n, r.d] μ = some (.bl (fol xs r), μ) := by
  have hlen := v_len_loc hn
  rw [List.length_map] at hlen
  by_cases h1 : xs.length = 1
  · refine trim0_eq (ex := []) ?_
    simp [ev_follows, startD, hlen, h1, Rec.ix0, fol]
  · have h1' : ¬ (xs.length : Int) = 1 := by omega
    have hn2 : (μ ++ [MO.lst []])[n]? = some (.lst (xs.map Rec.d)) := by rw [List.getElem?_append_left (List.getElem?_eq_some_iff.mp hn).1]; exact hn
    have hne := v_ne_nil hn2 (pyL_rec xs) (lay_rec xs hf) true
    cases hx : xs.getLast? with
    | none =>
      have hnil : xs = [] := List.getLast?_eq_none_iff.mp hx
      subst hnil
      refine trim0_eq (ex := [.lst []]) ?_
      have h2 := v_in_strsD r.tag ["program"] (μ ++ [MO.lst []])
      simp only [strsD, List.map_cons, List.map_nil] at h2
      simp only [List.map_nil, List.isEmpty_nil] at hne
      simp [-v_in_str, ev_follows, startD, hlen, hne, v_eq_non, Rec.ix0, v_can_none, h2, fol, lastTag, canF]
    | some l =>
      have hnn : xs ≠ [] := by rintro rfl; cases hx
      have hemp : (xs.map Rec.d).isEmpty = false := by cases xs with | nil => exact absurd rfl hnn | cons _ _ => rfl
      rw [hemp] at hne
      have hl : atI (xs.map Rec.d) (-1) = some l.d := by
        rw [atI_m, List.length_map, List.getElem?_map, ← List.getLast?_eq_getElem?, hx]
        rfl
      have hix := fun i => v_ix_loc (i := i) hn2
      refine trim0_eq (ex := [.lst []]) ?_
      by_cases hp : l.tag = "program"
      · simp [-atI_m, -v_in_str, ev_follows, startD, hlen, h1', hne, hix, hl, Rec.ix0, hp, fol, h1, lastTag, hx]
      · have h2 := fun μ => v_in_strsD r.tag (canF (some l.tag)) μ
        simp [-atI_m, -v_in_str, ev_follows, startD, hlen, h1', hne, hix, hl, Rec.ix0, hp, fol, h1, lastTag, hx, v_can_some, h2]
/-! ### are_records_of, journal_of -/
noncomputable def m_are_records_of := trim0 (runF N_are_records_of (ev_are_records_of m_is_record_of m_follows) 1)
def Seq (xs : List Rec) : Prop := ∀ (i : Nat) (r : Rec), xs[i]? = some r → fol (xs.take i) r = true
theorem v_are_records_of (xs : List Rec) (μ : Store) (n : Nat) (hn : μ[n]? = some (.lst (xs.map Rec.d))) (hf : ∀ x ∈ xs, x.Fit ∧ x.Good) (hs : Seq xs) (hl : xs.length < 10000) : m_are_records_of [.loc n] μ = some (.bl true, μ) := by
  have hlt : n < μ.length := (List.getElem?_eq_some_iff.mp hn).1
  have gn : ∀ r : Store, (μ ++ r)[n]? = some (.lst (xs.map Rec.d)) := fun r => by rw [List.getElem?_append_left hlt]; exact hn
  have hz : (xs.map Rec.d).length < sizeLine := by rw [List.length_map, size_eq]; omega
  obtain ⟨ex1, h1⟩ := comp_all (rd := rdLoc n) (g := egC1 1) (e := evCall m_is_record_of (evCons (evVar 1) evNil)) (ρ := [some (.loc n), none, none]) (xs.map Rec.d) ((xs.map fun _ => true).map D.bl) μ (by simp)
    (fun i acc ex => by unfold rdLoc; rw [gn]) hz
    (fun i d y hd hy => by
      rw [List.getElem?_map] at hd
      obtain ⟨r, hr, rfl⟩ := map_some hd
      have hy2 : y = .bl true := by
        rw [List.getElem?_map, List.getElem?_map, hr] at hy
        cases hy
        rfl
      subst hy2
      obtain ⟨q1, q2⟩ := hf r (List.mem_of_getElem? hr)
      refine ⟨_, rfl, fun acc ex => ⟨ex, ?_⟩⟩
      obtain ⟨b, g1, g2⟩ := v_is_record_of r (μ ++ .lst acc :: ex) q1
      rw [g2 q2] at g1
      simp [g1])
  have g2 : ∀ r : Store, (μ ++ MO.lst ((xs.map fun _ => true).map D.bl) :: ex1 ++ r)[n]? = some (.lst (xs.map Rec.d)) := fun r => by rw [List.append_assoc]; exact gn _
  obtain ⟨ex2, h2⟩ := comp_all (rd := rdEnum n) (g := egC2 2 1) (e := evCall m_follows (evCons (evCall dList (evCons (evSl dSl (evVar 0) evONone (evOSome (evVar 2))) evNil)) (evCons (evVar 1) evNil))) (ρ := [some (.loc n), none, none]) (enu (xs.map Rec.d)) ((xs.map fun _ => true).map D.bl) (μ ++ MO.lst ((xs.map fun _ => true).map D.bl) :: ex1) (by simp [enu_len])
    (fun i acc ex => enu_rd (by have := g2 []; rw [List.append_nil] at this; exact this) i _) (by rw [enu_len]; exact hz)
    (fun i d y hd hy => by
      obtain ⟨x, hx, rfl⟩ := enu_at hd
      rw [List.getElem?_map] at hx
      obtain ⟨r, hr, rfl⟩ := map_some hx
      have hy2 : y = .bl true := by
        rw [List.getElem?_map, List.getElem?_map, hr] at hy
        cases hy
        rfl
      subst hy2
      refine ⟨_, rfl, fun acc ex => ?_⟩
      obtain ⟨μ3, e3⟩ : ∃ μ3, μ3 = (μ ++ MO.lst ((xs.map fun _ => true).map D.bl) :: ex1) ++ MO.lst acc :: ex := ⟨_, rfl⟩
      have g3 : μ3[n]? = some (.lst (xs.map Rec.d)) := by rw [e3]; exact g2 _
      have hsl := v_sl_loc (lo := none) (hi := some (i : Int)) g3
      rw [cutD_b] at hsl
      have hli : dList [.loc μ3.length] (μ3 ++ [.lst ((xs.map Rec.d).take i)]) = some (.loc (μ3 ++ [MO.lst ((xs.map Rec.d).take i)]).length, μ3 ++ [.lst ((xs.map Rec.d).take i)] ++ [.lst ((xs.map Rec.d).take i)]) := by
        show (match (μ3 ++ [MO.lst ((xs.map Rec.d).take i)])[μ3.length]? with
          | some (MO.lst xs) => some (D.loc (μ3 ++ [MO.lst ((List.map Rec.d _).take i)]).length, _)
          | _ => none) = _
        rw [get_last]
      have hfo := v_follows (xs.take i) r (μ3 ++ [.lst ((xs.map Rec.d).take i)] ++ [.lst ((xs.map Rec.d).take i)]) (μ3 ++ [MO.lst ((xs.map Rec.d).take i)]).length (by rw [get_last, List.map_take]) (fun x hx => (hf x (List.mem_of_mem_take hx)).1)
      rw [hs i r hr] at hfo
      refine ⟨ex ++ [.lst ((xs.map Rec.d).take i)] ++ [.lst ((xs.map Rec.d).take i)], ?_⟩
      rw [← e3]
      have e4 : μ ++ MO.lst ((xs.map fun _ => true).map D.bl) :: ex1 ++ MO.lst acc :: (ex ++ [.lst ((xs.map Rec.d).take i)] ++ [.lst ((xs.map Rec.d).take i)]) = μ3 ++ [.lst ((xs.map Rec.d).take i)] ++ [.lst ((xs.map Rec.d).take i)] := by rw [e3]; simp
      rw [e4]
      simp only [s_evCall, s_evCons, s_evSl, s_evVar, s_evNil, s_evONone, s_evOSome, kVar_s, kSl_s, kSl2_s, kSl3_s, kOSome_s, List.getElem?_cons_zero, List.getElem?_cons_succ, List.set_cons_zero, List.set_cons_succ, hsl, kCons_s, kCons2_s, kCall_s, hli, hfo])
  have ha1 := v_all_loc (μ := μ ++ MO.lst ((xs.map fun _ => true).map D.bl) :: ex1) (n := μ.length) (bs := xs.map fun _ => true) get_last
  have ha2 := v_all_loc (μ := μ ++ MO.lst ((xs.map fun _ => true).map D.bl) :: ex1 ++ MO.lst ((xs.map fun _ => true).map D.bl) :: ex2) (n := (μ ++ MO.lst ((xs.map fun _ => true).map D.bl) :: ex1).length) (bs := xs.map fun _ => true) get_last
  have hall : (xs.map fun _ => true).all id = true := by simp
  rw [hall] at ha1 ha2
  have hty : tyD μ (.loc n) = some "list" := by
    unfold tyD
    simp only [hn]
  have g4 := g2 []
  rw [List.append_nil] at g4
  obtain ⟨μ1, e1⟩ : ∃ μ1, μ1 = μ ++ MO.lst ((xs.map fun _ => true).map D.bl) :: ex1 := ⟨_, rfl⟩
  rw [← e1] at h1 h2 ha1 ha2 g4
  obtain ⟨μ2, e2⟩ : ∃ μ2, μ2 = μ1 ++ MO.lst ((xs.map fun _ => true).map D.bl) :: ex2 := ⟨_, rfl⟩
  rw [← e2] at h2 ha2
  have e3 : μ2 = μ ++ (MO.lst ((xs.map fun _ => true).map D.bl) :: ex1 ++ MO.lst ((xs.map fun _ => true).map D.bl) :: ex2) := by rw [e2, e1]; simp
  refine trim0_eq (ex := MO.lst ((xs.map fun _ => true).map D.bl) :: ex1 ++ MO.lst ((xs.map fun _ => true).map D.bl) :: ex2) ?_
  rw [← e3]
  clear e3 e2 e1 hall g2
  simp [ev_are_records_of, startD, hty, isiTys, isiB, hn, h1, ha1, g4, h2, ha2]
noncomputable def m_are_records := trim0 (runF N_are_records (ev_are_records m_are_records_of) 1)
theorem v_are_records (xs : List Rec) (μ : Store) (n : Nat) (hn : μ[n]? = some (.lst (xs.map Rec.d))) (hf : ∀ x ∈ xs, x.Fit ∧ x.Good) (hs : Seq xs) (hl : xs.length < 10000) : m_are_records [.loc n] μ = some (.bl true, μ) := by
  refine trim0_eq (ex := []) ?_
  simp [ev_are_records, startD, v_are_records_of xs μ n hn hf hs hl]
/-! ### journal_of, journal_text -/
def linesL (xs : List Rec) : List (List Nat) := xs.mapIdx fun i r => line (i : Nat) r
noncomputable def m_journal_of := trim0 (runF N_journal_of (ev_journal_of m_line_of) 1)
theorem joinL_nil : ∀ ls : List (List Nat), TL.joinL [] ls = ls.flatten
  | [] => rfl
  | [x] => by show x = _; simp
  | x :: y :: r => by
    show x ++ ([] ++ TL.joinL [] (y :: r)) = _
    rw [joinL_nil (y :: r)]
    simp
theorem linesL_len (xs : List Rec) (h : ∀ r ∈ xs, r.Sm) (hl : xs.length < 100) : ((linesL xs).map List.length).sum ≤ xs.length * 1700 := by
  have key : ∀ (ys : List Rec) (k : Nat), (∀ r ∈ ys, r.Sm) → k + ys.length < 1000 → ((ys.mapIdx fun i r => line ((k + i : Nat) : Int) r).map List.length).sum ≤ ys.length * 1700 := by
    intro ys
    induction ys with
    | nil => intro k _ _; simp
    | cons r ys ih =>
      intro k hy hk
      have h1 := line_len ((k + 0 : Nat) : Int) r (by have : (10 : Nat) ^ 20 = 100000000000000000000 := by decide
                                                      simp only [List.length_cons] at hk; omega) (hy r (List.mem_cons_self ..))
      have h2 := ih (k + 1) (fun x hx => hy x (List.mem_cons_of_mem _ hx)) (by simp only [List.length_cons] at hk; omega)
      rw [List.mapIdx_cons, List.map_cons, List.sum_cons, List.length_cons]
      have e : (ys.mapIdx fun i r => line ((k + (i + 1) : Nat) : Int) r) = ys.mapIdx fun i r => line ((k + 1 + i : Nat) : Int) r := by
        congr 1
        funext i r
        congr 2
        omega
      rw [e]
      omega
  have := key xs 0 h (by omega)
  simpa [linesL] using this
theorem v_journal_of (xs : List Rec) (μ : Store) (n : Nat) (hn : μ[n]? = some (.lst (xs.map Rec.d))) (hf : ∀ x ∈ xs, x.Sm) (hl : xs.length < 100) : m_journal_of [.loc n] μ = some (.str (S (linesL xs).flatten), μ) := by
  have hlt : n < μ.length := (List.getElem?_eq_some_iff.mp hn).1
  have gn : ∀ r : Store, (μ ++ r)[n]? = some (.lst (xs.map Rec.d)) := fun r => by rw [List.getElem?_append_left hlt]; exact hn
  obtain ⟨ex1, h1⟩ := comp_all (rd := rdEnum n) (g := egC2 1 2) (e := evCall m_line_of (evCons (evVar 1) (evCons (evVar 2) evNil))) (ρ := [some (.loc n), none, none]) (enu (xs.map Rec.d)) ((linesL xs).map fun l => .str (S l)) μ (by simp [enu_len, linesL])
    (fun i acc ex => enu_rd hn i _) (by rw [enu_len, List.length_map, size_eq]; omega)
    (fun i d y hd hy => by
      obtain ⟨x, hx, rfl⟩ := enu_at hd
      rw [List.getElem?_map] at hx
      obtain ⟨r, hr, rfl⟩ := map_some hx
      have hi : i < xs.length := (List.getElem?_eq_some_iff.mp hr).1
      have hy2 : y = .str (S (line (i : Nat) r)) := by
        rw [List.getElem?_map] at hy
        unfold linesL at hy
        rw [List.getElem?_mapIdx, hr] at hy
        cases hy
        rfl
      subst hy2
      refine ⟨_, rfl, fun acc ex => ⟨ex, ?_⟩⟩
      have h10 : (10 : Nat) ^ 20 = 100000000000000000000 := by decide
      have := v_line_of (i : Nat) r (μ ++ .lst acc :: ex) (by omega) (hf r (List.mem_of_getElem? hr))
      simp [this])
  have hj := v_join (μ := μ ++ MO.lst ((linesL xs).map fun l => .str (S l)) :: ex1) (n := μ.length) (k := []) (ls := linesL xs) get_last
    (by
      have := linesL_len xs hf hl
      simp only [List.length_nil, Nat.mul_zero, Nat.add_zero]
      omega)
  rw [joinL_nil] at hj
  refine trim0_eq (ex := MO.lst ((linesL xs).map fun l => .str (S l)) :: ex1) ?_
  simp [ev_journal_of, startD, l_em, hn, h1, hj]
noncomputable def m_journal_text := trim0 (runF N_journal_text (ev_journal_text m_are_records_of m_journal_of) 1)
theorem v_journal_text (xs : List Rec) (μ : Store) (n : Nat) (hn : μ[n]? = some (.lst (xs.map Rec.d))) (hf : ∀ x ∈ xs, x.Sm ∧ x.Good) (hs : Seq xs) (hl : xs.length < 100) : m_journal_text [.loc n] μ = some (.str (S (linesL xs).flatten), μ) := by
  refine trim0_eq (ex := []) ?_
  simp [ev_journal_text, startD, v_are_records_of xs μ n hn (fun x hx => ⟨(hf x hx).1.fit, (hf x hx).2⟩) hs (by omega), v_journal_of xs μ n hn (fun x hx => (hf x hx).1) hl]
end K73
set_option Elab.async false
set_option linter.all false
set_option maxRecDepth 100000
namespace K73
open PySem PySem.Spec PyProof.Rows L2 PDL SX Tel
theorem Asc.drop {cs : List Nat} (h : Asc cs) (n : Nat) : Asc (cs.drop n) := fun c hc => h c (List.mem_of_mem_drop hc)
theorem Asc.take {cs : List Nat} (h : Asc cs) (n : Nat) : Asc (cs.take n) := fun c hc => h c (List.mem_of_mem_take hc)
theorem asc_show (i : Int) : Asc (showL i) := fun c hc => by
  rcases showL_signs hc with h | h <;> omega
/-! ### int_from -/
def brk (k : Nat) : List Nat → Option (List Nat × List Nat)
  | [] => none
  | x :: r => if x = k then some ([], r) else match brk k r with
    | some (p, q) => some (x :: p, q)
    | none => none
theorem brk_app {k : Nat} : ∀ {p : List Nat} (q : List Nat), k ∉ p → brk k (p ++ k :: q) = some (p, q)
  | [], q, _ => by simp [brk]
  | x :: p, q, h => by
    have h1 : ¬ x = k := fun z => h (by rw [z]; exact List.mem_cons_self ..)
    have h2 := brk_app (p := p) q fun z => h (List.mem_cons_of_mem _ z)
    simp [brk, h1, h2]
theorem brk_none {k : Nat} : ∀ {s : List Nat}, k ∉ s → brk k s = none
  | [], _ => rfl
  | x :: p, h => by
    have h1 : ¬ x = k := fun z => h (by rw [z]; exact List.mem_cons_self ..)
    have h2 := brk_none (s := p) fun z => h (List.mem_cons_of_mem _ z)
    simp [brk, h1, h2]
theorem brk_some {k : Nat} : ∀ {s p q : List Nat}, brk k s = some (p, q) → s = p ++ k :: q
  | [], _, _, h => by cases h
  | x :: r, p, q, h => by
    unfold brk at h
    split at h
    · rename_i e
      cases h
      rw [e]
      rfl
    · split at h
      · rename_i p' q' e
        cases h
        rw [brk_some e]
        rfl
      · cases h
def bare (ds : List Nat) : List Nat := if ds.take 1 = [45] then ds.drop 1 else ds
def digs (ds : List Nat) : Bool := ds.all fun c => decide (c ∈ figL)
theorem fig_iff (c : Nat) : c ∈ figL ↔ 48 ≤ c ∧ c ≤ 57 := by
  simp [figL]
  omega
theorem digs_all {ds : List Nat} (h : digs ds = true) : NumText.AllDigits ds := fun c hc => (fig_iff c).mp (of_decide_eq_true (List.all_eq_true.mp h c hc))
theorem digs_of {ds : List Nat} (h : NumText.AllDigits ds) : digs ds = true := List.all_eq_true.mpr fun c hc => decide_eq_true ((fig_iff c).mpr (h c hc))
def numOf (ds : List Nat) : Int := (PySem.intText? (S ds)).getD 0
theorem num_bare {ds : List Nat} (h1 : bare ds ≠ []) (h2 : digs (bare ds) = true) (h3 : (bare ds).length ≤ 20) : PySem.intText? (S ds) = some (numOf ds) ∧ (numOf ds).natAbs < 10 ^ 20 := by
  have key : ∃ n : Int, PySem.intText? (S ds) = some n ∧ n.natAbs < 10 ^ 20 := by
    have hv : ∀ l : List Nat, NumText.AllDigits l → l.length ≤ 20 → NumText.digitsVal l < 10 ^ 20 := by
      intro l hl hn
      have key : ∀ (l : List Nat) (a : Nat), NumText.AllDigits l → l.foldl (fun acc c => acc * 10 + (c - 48)) a < (a + 1) * 10 ^ l.length := by
        intro l
        induction l with
        | nil => intro a _; simp
        | cons c r ih =>
          intro a hd
          have hc := hd.head
          have := ih (a * 10 + (c - 48)) hd.tail
          rw [List.foldl_cons, List.length_cons, Nat.pow_succ]
          refine Nat.lt_of_lt_of_le this ?_
          rw [Nat.mul_comm (10 ^ r.length) 10, ← Nat.mul_assoc]
          exact Nat.mul_le_mul_right _ (by omega)
      have h := key l 0 hl
      have h2 : 10 ^ l.length ≤ 10 ^ 20 := Nat.pow_le_pow_right (by decide) hn
      unfold NumText.digitsVal
      omega
    unfold bare at h1 h2 h3
    by_cases hm : ds.take 1 = [45]
    · rw [if_pos hm] at h1 h2 h3
      have e : ds = 45 :: ds.drop 1 := by
        conv => lhs; rw [← List.take_append_drop 1 ds, hm]
        rfl
      have hl : (S ds).length ≤ 4300 := by
        rw [S_len, e, List.length_cons]
        omega
      refine ⟨_, PySem.intText_neg (x := S ds) (cs := ds.drop 1) e (digs_all h2) h1 hl, ?_⟩
      have := hv _ (digs_all h2) h3
      omega
    · rw [if_neg hm] at h1 h2 h3
      refine ⟨_, PySem.intText_digits (x := S ds) (digs_all h2) h1 (by rw [S_len]; omega), ?_⟩
      have := hv _ (digs_all h2) h3
      exact this
  obtain ⟨n, h4, h5⟩ := key
  have e : numOf ds = n := by unfold numOf; rw [h4]; rfl
  rw [e]
  exact ⟨h4, h5⟩
def pInt (ds : List Nat) : Option Int := if bare ds = [] ∨ digs (bare ds) = false ∨ 10 < (bare ds).length then none else if showL (numOf ds) = ds ∧ isI (numOf ds) = true then some (numOf ds) else none
theorem pInt_okB {ds : List Nat} {i : Int} (h : pInt ds = some i) : isI i = true := by
  unfold pInt at h
  split at h
  · cases h
  · split at h
    · rename_i hh
      cases h
      exact hh.2
    · cases h
theorem dInt_S {ds : List Nat} {n : Int} (h : PySem.intText? (S ds) = some n) (hl : ds.length ≤ 640) (μ : Store) : dInt [.str (S ds)] μ = some (.int n, μ) := by
  show (if (S ds).length ≤ 640 then (PySem.intText? (S ds)).map fun n => (D.int n, μ) else none) = _
  rw [if_pos (by rw [S_len]; exact hl), h]
  rfl
noncomputable def m_int_from := trim0 (runF N_int_from (ev_int_from m_is_int) 2)
def intRes (at_ : Nat) (s : List Nat) : D := match brk 59 s with
  | none => .non
  | some (ds, _) => match pInt ds with
    | none => .non
    | some i => .tup [.int i, .int ((at_ + ds.length + 1 : Nat) : Int)]
theorem v_int_from (cs : List Nat) (at_ : Nat) (μ : Store) (ha : Asc cs) (hl : cs.length < 1000000) (hat : at_ ≤ cs.length) : m_int_from [.str (S cs), .int at_] μ = some (intRes at_ (cs.drop at_), μ) := by
  have hz : cs.length ≤ sizeLine := by rw [size_eq]; omega
  -- the part behind the digits' cut
  have core : ∀ (ds : List Nat) (e : Int), Asc ds → ds.length ≤ cs.length → ∃ ex, kRun (evSeq (evAsg (evIf (evTCmp (dEqv false) (evSl dSl (evVar 3) evONone (evOSome (evC (.int 1)))) (evC (.str "-"))) (evSl dSl (evVar 3) (evOSome (evC (.int 1))) evONone) (evVar 3)) (egName 4))
      (evSeq (evIfS (evOrT (evTCmp (dEqv false) (evVar 4) (evC (.str ""))) (evOrT (evNotT (evTest (evCall dAll (evCons (evComp (eiStr (evVar 4)) (egC1 6) evYes (evCmp (dIn false) (evVar 6) (evC (.str "0123456789"))) [6]) evNil)))) (evTCmp dGt (evCall dLen (evCons (evVar 4) evNil)) (evC (.int 10)))))
      (evRet (evC .non))
      evNx)
      (evSeq (evAsg (evCall dInt (evCons (evVar 3) evNil)) (egName 5))
      (evRet (evIf (evAndT (evTCmp (dEqv false) (evCall dStr (evCons (evVar 5) evNil)) (evVar 3)) (evTest (evCall m_is_int (evCons (evVar 5) evNil)))) (evTup (evCons (evVar 5) (evCons (evBin dAdd (evVar 2) (evC (.int 1))) evNil))) (evC .non)))))
      [some (.str (S cs)), some (.int at_), some (.int e), some (.str (S ds)), none, none, none] μ) = some (match pInt ds with
        | none => .non
        | some i => .tup [.int i, .int (e + 1)], μ ++ ex) := by
    intro ds e had hdl
    have hzd : ds.length ≤ sizeLine := by rw [size_eq]; omega
    have s1 : ∀ μ : Store, dSl (.str (S ds)) none (some 1) μ = some (.str (S (ds.take 1)), μ) := fun μ => v_sl_b (b := 1) hzd
    have s2 : ∀ μ : Store, dSl (.str (S ds)) (some 1) none μ = some (.str (S (ds.drop 1)), μ) := fun μ => v_sl_a (a := 1) hzd
    have q1 := fun μ => v_eq_S (neg := false) (μ := μ) (l := ds.take 1) (m := [45]) (had.take 1) (by simp)
    have hbare : (if ds.take 1 = [45] then ds.drop 1 else ds) = bare ds := rfl
    have hab : Asc (bare ds) := by
      unfold bare
      split
      · exact had.drop 1
      · exact had
    have hbl : (bare ds).length ≤ ds.length := by
      unfold bare
      split
      · rw [List.length_drop]; omega
      · exact Nat.le_refl _
    have q2 := fun μ => v_eq_S (neg := false) (μ := μ) (l := bare ds) (m := []) hab (by simp)
    have hzb : (bare ds).length ≤ sizeLine := by omega
    -- after bare
    have tail : ∃ ex, kRun (evSeq (evIfS (evOrT (evTCmp (dEqv false) (evVar 4) (evC (.str ""))) (evOrT (evNotT (evTest (evCall dAll (evCons (evComp (eiStr (evVar 4)) (egC1 6) evYes (evCmp (dIn false) (evVar 6) (evC (.str "0123456789"))) [6]) evNil)))) (evTCmp dGt (evCall dLen (evCons (evVar 4) evNil)) (evC (.int 10)))))
        (evRet (evC .non))
        evNx)
        (evSeq (evAsg (evCall dInt (evCons (evVar 3) evNil)) (egName 5))
        (evRet (evIf (evAndT (evTCmp (dEqv false) (evCall dStr (evCons (evVar 5) evNil)) (evVar 3)) (evTest (evCall m_is_int (evCons (evVar 5) evNil)))) (evTup (evCons (evVar 5) (evCons (evBin dAdd (evVar 2) (evC (.int 1))) evNil))) (evC .non))))
        [some (.str (S cs)), some (.int at_), some (.int e), some (.str (S ds)), some (.str (S (bare ds))), none, none] μ) = some (match pInt ds with
          | none => .non
          | some i => .tup [.int i, .int (e + 1)], μ ++ ex) := by
      by_cases h1 : bare ds = []
      · refine ⟨[], ?_⟩
        rw [h1] at q2
        simp [l_em, q2, h1, pInt]
      · obtain ⟨ex, h⟩ := all_signs (cs := bare ds) (ρ := [some (.str (S cs)), some (.int at_), some (.int e), some (.str (S ds)), some (.str (S (bare ds))), none, none]) (ρ' := [some (.str (S cs)), some (.int at_), some (.int e), some (.str (S ds)), some (.str (S (bare ds))), none, none]) (i := 6) (e := evCmp (dIn false) (evVar 6) (evC (.str "0123456789"))) (μ := μ) (fun c => decide (c ∈ figL)) (by omega)
          (fun c hc acc ex => ⟨ex, by simp [l_fig, v_in_sign]⟩)
        refine ⟨ex, ?_⟩
        cases h2 : digs (bare ds) with
        | false =>
          have h' := h2
          unfold digs at h'
          rw [h'] at h
          simp [-kComp_s, l_em, q2, h1, h, pInt, h2]
        | true =>
          have h' := h2
          unfold digs at h'
          rw [h'] at h
          by_cases h3 : 10 < (bare ds).length
          · simp [-kComp_s, l_em, q2, h1, h, pInt, h2, h3, v_len_str hzb, show (10 : Int) < ((bare ds).length : Int) by omega]
          · obtain ⟨n1, n2⟩ := num_bare h1 h2 (by omega)
            have hdl2 : ds.length ≤ 640 := by
              have : ds.length ≤ (bare ds).length + 1 := by
                unfold bare
                split
                · rw [List.length_drop]; omega
                · omega
              omega
            have q3 := fun μ => v_eq_S (neg := false) (μ := μ) (l := showL (numOf ds)) (m := ds) (asc_show _) had
            by_cases h4 : showL (numOf ds) = ds
            · rw [h4] at q3
              have d4 := fun μ => dStr_S n2 μ
              rw [h4] at d4
              cases h5 : isI (numOf ds) <;> simp [-kComp_s, l_em, q2, h1, h, pInt, h2, h3, v_len_str hzb, show ¬ (10 : Int) < ((bare ds).length : Int) by omega, dInt_S n1 hdl2, d4, q3, h4, h5, v_is_int, sz2]
            · simp [-kComp_s, l_em, q2, h1, h, pInt, h2, h3, v_len_str hzb, show ¬ (10 : Int) < ((bare ds).length : Int) by omega, dInt_S n1 hdl2, dStr_S n2, q3, h4]
    obtain ⟨ex, ht⟩ := tail
    refine ⟨ex, ?_⟩
    by_cases hm : ds.take 1 = [45]
    · have hb : bare ds = ds.drop 1 := by unfold bare; rw [if_pos hm]
      rw [hb] at ht
      rw [hm] at q1 s1
      rw [s_evSeq]
      have e1 : evAsg (evIf (evTCmp (dEqv false) (evSl dSl (evVar 3) evONone (evOSome (evC (.int 1)))) (evC (.str "-"))) (evSl dSl (evVar 3) (evOSome (evC (.int 1))) evONone) (evVar 3)) (egName 4) [some (.str (S cs)), some (.int at_), some (.int e), some (.str (S ds)), none, none, none] μ = some (.nx, [some (.str (S cs)), some (.int at_), some (.int e), some (.str (S ds)), some (.str (S (ds.drop 1))), none, none], μ) := by
        simp [l_mi, s1, s2, q1]
      rw [e1, kSeq_n]
      exact ht
    · have hb : bare ds = ds := by unfold bare; rw [if_neg hm]
      rw [hb] at ht
      rw [s_evSeq]
      have e1 : evAsg (evIf (evTCmp (dEqv false) (evSl dSl (evVar 3) evONone (evOSome (evC (.int 1)))) (evC (.str "-"))) (evSl dSl (evVar 3) (evOSome (evC (.int 1))) evONone) (evVar 3)) (egName 4) [some (.str (S cs)), some (.int at_), some (.int e), some (.str (S ds)), none, none, none] μ = some (.nx, [some (.str (S cs)), some (.int at_), some (.int e), some (.str (S ds)), some (.str (S ds)), none, none], μ) := by
        simp [l_mi, s1, s2, q1, hm]
      rw [e1, kSeq_n]
      exact ht
  rcases find_from cs 59 at_ hat with ⟨f1, f2⟩ | ⟨p, q, f1, f2, f3⟩
  · obtain ⟨ex, hc⟩ := core [] (-1) (by intro c hc; cases hc) (Nat.zero_le _)
    refine trim0_eq (ex := ex) ?_ ?_
    · have hr : intRes at_ (cs.drop at_) = (match pInt [] with
        | none => .non
        | some i => .tup [.int i, .int (-1 + 1)]) := by
        unfold intRes
        rw [brk_none f2]
        simp [pInt, bare]
      rw [hr, ← hc]
      simp only [s_runF, startD, List.length_cons, List.length_nil, if_true, List.map_cons, List.map_nil, ev_int_from]
      congr 1
      have hfi : ∀ μ : Store, dFind (.str (S cs)) [.str (S [59]), .int at_] μ = some (.int (-1), μ) := fun μ => by
        show some (D.int (Txt.find3 (S cs) (S [59]) (at_ : Int)), μ) = _
        rw [f1]
      rw [s_evSeq (s2 := evSeq _ _)]
      simp [l_sc, l_em, hfi]
    · unfold intRes
      rw [brk_none f2]
      rfl
  · have hpl : p.length ≤ cs.length := by
      have := congrArg List.length f1
      simp only [List.length_drop, List.length_append, List.length_cons] at this
      omega
    have hap : Asc p := fun c hc => (ha.drop at_) c (by rw [f1]; exact List.mem_append_left _ hc)
    obtain ⟨ex, hc⟩ := core p ((at_ + p.length : Nat) : Int) hap hpl
    have hr : intRes at_ (cs.drop at_) = (match pInt p with
      | none => .non
      | some i => .tup [.int i, .int (((at_ + p.length : Nat) : Int) + 1)]) := by
      unfold intRes
      rw [f1, brk_app q f2]
      simp only
      cases pInt p with
      | none => rfl
      | some i => rfl
    refine trim0_eq (ex := ex) ?_ ?_
    · rw [hr, ← hc]
      simp only [s_runF, startD, List.length_cons, List.length_nil, if_true, List.map_cons, List.map_nil, ev_int_from]
      congr 1
      have hfi : ∀ μ : Store, dFind (.str (S cs)) [.str (S [59]), .int at_] μ = some (.int ((at_ + p.length : Nat) : Int), μ) := fun μ => by
        show some (D.int (Txt.find3 (S cs) (S [59]) (at_ : Int)), μ) = _
        rw [f3]
      have hsl : ∀ μ : Store, dSl (.str (S cs)) (some (at_ : Int)) (some ((at_ + p.length : Nat) : Int)) μ = some (.str (S p), μ) := fun μ => by
        rw [v_sl_ab hz, f1, show at_ + p.length - at_ = p.length by omega, List.take_left']
        rfl
      rw [s_evSeq (s2 := evSeq _ _)]
      have hge : (0 : Int) ≤ ((at_ + p.length : Nat) : Int) := Int.natCast_nonneg _
      generalize ((at_ + p.length : Nat) : Int) = en at *
      simp [l_sc, hfi, hsl, hge]
    · rw [hr]
      cases pInt p <;> rfl
end K73
set_option Elab.async false
set_option linter.all false
set_option maxRecDepth 100000
namespace K73
open PySem PySem.Spec PyProof.Rows L2 PDL SX Tel
/-! ### telling_from -/
def one (c : Nat) : Option Tel := if c = 116 then some (.bl true) else if c = 102 then some (.bl false) else if c = 117 then some .unit else if c = 110 then some .nil else if c = 70 then some .fn else none
def pt : Nat → List Nat → Option (Tel × List Nat)
  | 0, _ => none
  | _ + 1, [] => none
  | k + 1, c :: r => match one c with
    | some t => some (t, r)
    | none => if c = 105 then (match brk 59 r with
        | none => none
        | some (ds, q) => match pInt ds with
          | none => none
          | some i => some (.int i, q))
      else if c = 112 ∨ c = 99 then (match pt k r with
        | none => none
        | some (a, r1) => match pt k r1 with
          | none => none
          | some (b, r2) => some (if c = 112 then .pair a b else .cons a b, r2))
      else none
theorem one_facts {c : Nat} {t : Tel} (h : one c = some t) : t.size = 1 ∧ okB t = true ∧ t.high = 1 := by
  unfold one at h
  repeat' (split at h)
  all_goals first | (cases h; exact ⟨rfl, rfl, rfl⟩) | cases h
theorem pt_facts : ∀ (k : Nat) (s : List Nat) (t : Tel) (r : List Nat), pt k s = some (t, r) → ∃ u, s = u ++ r ∧ t.size ≤ u.length ∧ okB t = true ∧ t.high ≤ k
  | 0, _, _, _, h => by cases h
  | _ + 1, [], _, _, h => by cases h
  | k + 1, c :: s, t, r, h => by
    unfold pt at h
    split at h
    · rename_i t' e
      cases h
      obtain ⟨h1, h2, h3⟩ := one_facts e
      exact ⟨[c], rfl, by rw [h1]; exact Nat.le_refl _, h2, by omega⟩
    · split at h
      · split at h
        · cases h
        · rename_i ds q e
          split at h
          · cases h
          · rename_i i e2
            cases h
            have := brk_some e
            refine ⟨c :: (ds ++ [59]), by rw [this]; simp, by simp [size], pInt_okB e2, by simp [high]⟩
      · split at h
        · split at h
          · cases h
          · rename_i a r1 e1
            split at h
            · cases h
            · rename_i b r2 e2
              cases h
              obtain ⟨u1, h1, h2, h3, h4⟩ := pt_facts k s a r1 e1
              obtain ⟨u2, h5, h6, h7, h8⟩ := pt_facts k r1 b r e2
              refine ⟨c :: (u1 ++ u2), by rw [h1, h5]; simp, ?_, ?_, ?_⟩
              · split <;> simp [size] <;> omega
              · split <;> simp [okB, h3, h7]
              · split <;> simp [high] <;> omega
        · cases h
theorem pt_w : ∀ (t : Tel) (k : Nat) (r : List Nat), t.high ≤ k → okB t = true → pt k (w t ++ r) = some (t, r)
  | .int i, 0, _, h, _ => by simp [high] at h
  | .int i, k + 1, r, _, h => by
    have hb : brk 59 (showL i ++ 59 :: r) = some (showL i, r) := brk_app r fun hc => by
      rcases showL_signs hc with h | h <;> omega
    have hi : isI i = true := h
    have hp : pInt (showL i) = some i := by
      have hab := isI_abs hi
      have hrd := showL_read hab
      have hn : numOf (showL i) = i := by unfold numOf; rw [hrd]; rfl
      have hbr : bare (showL i) ≠ [] ∧ digs (bare (showL i)) = true ∧ (bare (showL i)).length ≤ 10 := by
        have h := hi
        unfold isI at h
        simp only [Bool.and_eq_true, decide_eq_true_eq] at h
        cases i with
        | ofNat n =>
          rw [show showL (Int.ofNat n) = TL.numL n from showL_nat n]
          have hne := TL.numL_ne n
          have h1 : ¬ (TL.numL n).take 1 = [45] := by
            intro e
            have hm : 45 ∈ TL.numL n := List.mem_of_mem_take (i := 1) (by rw [e]; simp)
            exact TL.numL_free (.inl (by decide)) hm
          have hb2 : bare (TL.numL n) = TL.numL n := by unfold bare; rw [if_neg h1]
          rw [hb2]
          exact ⟨hne, digs_of (TL.numL_digits n), TL.numL_len (by decide) (by
            have : (10 : Nat) ^ 10 = 10000000000 := by decide
            have := h.2
            simp only [Int.ofNat_eq_natCast] at this
            omega)⟩
        | negSucc n =>
          rw [showL_neg]
          have hb2 : bare (45 :: TL.numL (n + 1)) = TL.numL (n + 1) := by unfold bare; simp
          rw [hb2]
          exact ⟨TL.numL_ne _, digs_of (TL.numL_digits _), TL.numL_len (by decide) (by
            have : (10 : Nat) ^ 10 = 10000000000 := by decide
            have := h.1
            omega)⟩
      obtain ⟨b1, b2, b3⟩ := hbr
      unfold pInt
      rw [if_neg (by
        rintro (z | z | z)
        · exact b1 z
        · rw [b2] at z; cases z
        · omega), hn, if_pos ⟨rfl, hi⟩]
    have e : w (.int i) ++ r = 105 :: (showL i ++ 59 :: r) := by simp [w]
    rw [e]
    unfold pt
    simp [one, hb, hp]
  | .bl true, 0, _, h, _ => by simp [high] at h
  | .bl true, k + 1, r, _, _ => by simp [w, pt, one]
  | .bl false, 0, _, h, _ => by simp [high] at h
  | .bl false, k + 1, r, _, _ => by simp [w, pt, one]
  | .unit, 0, _, h, _ => by simp [high] at h
  | .unit, k + 1, r, _, _ => by simp [w, pt, one]
  | .nil, 0, _, h, _ => by simp [high] at h
  | .nil, k + 1, r, _, _ => by simp [w, pt, one]
  | .fn, 0, _, h, _ => by simp [high] at h
  | .fn, k + 1, r, _, _ => by simp [w, pt, one]
  | .pair a b, 0, _, h, _ => by simp [high] at h
  | .pair a b, k + 1, r, h, ho => by
    simp only [okB, Bool.and_eq_true] at ho
    simp only [high] at h
    have h1 := pt_w a k (w b ++ r) (by omega) ho.1
    have h2 := pt_w b k r (by omega) ho.2
    simp [w, pt, one, h1, h2]
  | .cons a b, 0, _, h, _ => by simp [high] at h
  | .cons a b, k + 1, r, h, ho => by
    simp only [okB, Bool.and_eq_true] at ho
    simp only [high] at h
    have h1 := pt_w a k (w b ++ r) (by omega) ho.1
    have h2 := pt_w b k r (by omega) ho.2
    simp [w, pt, one, h1, h2]
noncomputable def m_telling_from : Nat → List D → Store → Option (D × Store)
  | 0 => fun _ _ => none
  | j + 1 => trim0 (runF N_telling_from (ev_telling_from m_int_from (m_telling_from j)) 3)
def tRes (n : Nat) : Option (Tel × List Nat) → D
  | none => .non
  | some (t, r) => .tup [t.d, .int ((n - r.length : Nat) : Int)]
theorem get_plain (c : Nat) : tget tab_PLAIN (S [c]) = (one c).map Tel.d := by
  unfold one
  simp only [tab_PLAIN, tget, l_t, l_f, l_u, l_n, l_F, S_eq]
  by_cases h1 : c = 116
  · subst h1; rfl
  · by_cases h2 : c = 102
    · subst h2; rfl
    · by_cases h3 : c = 117
      · subst h3; rfl
      · by_cases h4 : c = 110
        · subst h4; rfl
        · by_cases h5 : c = 70
          · subst h5; rfl
          · simp [h1, h2, h3, h4, h5, Ne.symm h1, Ne.symm h2, Ne.symm h3, Ne.symm h4, Ne.symm h5, show ¬ 116 = c from fun z => h1 z.symm, show ¬ 102 = c from fun z => h2 z.symm, show ¬ 117 = c from fun z => h3 z.symm, show ¬ 110 = c from fun z => h4 z.symm, show ¬ 70 = c from fun z => h5 z.symm]
theorem get_plain_nil : tget tab_PLAIN (S []) = none := by
  simp [tab_PLAIN, tget, l_t, l_f, l_u, l_n, l_F]
theorem get_double (c : Nat) : tget tab_DOUBLE (S [c]) = if c = 112 then some (.str "pair") else if c = 99 then some (.str "cons") else none := by
  simp only [tab_DOUBLE, tget, l_p, l_c, S_eq]
  by_cases h1 : c = 112
  · subst h1; rfl
  · by_cases h2 : c = 99
    · subst h2; rfl
    · simp [h1, h2, show ¬ 112 = c from fun z => h1 z.symm, show ¬ 99 = c from fun z => h2 z.symm]
theorem get_double_nil : tget tab_DOUBLE (S []) = none := by
  simp [tab_DOUBLE, tget, l_p, l_c]
theorem v_telling_from : ∀ (k j : Nat) (cs : List Nat) (at_ : Nat) (μ : Store), k < j → Asc cs → cs.length < 1000000 → at_ ≤ cs.length → m_telling_from j [.str (S cs), .int at_, .int k] μ = some (tRes cs.length (pt k (cs.drop at_)), μ)
  | k, 0, _, _, _, h, _, _, _ => absurd h (Nat.not_lt_zero _)
  | 0, j + 1, cs, at_, μ, _, ha, hl, hat => by
    have hz : cs.length ≤ sizeLine := by rw [size_eq]; omega
    have hsl : ∀ μ : Store, dSl (.str (S cs)) (some (at_ : Int)) (some ((at_ : Int) + 1)) μ = some (.str (S ((cs.drop at_).take 1)), μ) := fun μ => by
      have := v_sl_ab (μ := μ) (l := cs) (a := at_) (b := at_ + 1) hz
      rw [show at_ + 1 - at_ = 1 by omega] at this
      exact this
    refine trim0_eq (ex := []) ?_
    simp [ev_telling_from, startD, hsl, pt, tRes]
  | k + 1, j + 1, cs, at_, μ, hk, ha, hl, hat => by
    have hz : cs.length ≤ sizeLine := by rw [size_eq]; omega
    have hsl : ∀ μ : Store, dSl (.str (S cs)) (some (at_ : Int)) (some ((at_ : Int) + 1)) μ = some (.str (S ((cs.drop at_).take 1)), μ) := fun μ => by
      have := v_sl_ab (μ := μ) (l := cs) (a := at_) (b := at_ + 1) hz
      rw [show at_ + 1 - at_ = 1 by omega] at this
      exact this
    have hk0 : ¬ ((k : Int) + 1 = 0) := by omega
    cases hs : cs.drop at_ with
    | nil =>
      rw [hs] at hsl
      refine trim0_eq (ex := []) ?_
      have q1 := fun μ => v_eq_S (neg := false) (μ := μ) (l := []) (m := [105]) (by simp) (by simp)
      simp only [List.take_nil] at hsl
      simp [ev_telling_from, startD, hsl, pt, tRes, hk0, get_plain_nil, get_double_nil, l_i, q1]
    | cons c s =>
      rw [hs] at hsl
      have hc : c < 128 := (ha.drop at_) c (by rw [hs]; exact List.mem_cons_self ..)
      have hsl2 : ∀ μ : Store, dSl (.str (S cs)) (some (at_ : Int)) (some ((at_ : Int) + 1)) μ = some (.str (S [c]), μ) := hsl
      have hat1 : at_ + 1 ≤ cs.length := by
        have := congrArg List.length hs
        simp only [List.length_drop, List.length_cons] at this
        omega
      have hs1 : cs.drop (at_ + 1) = s := by
        rw [← List.drop_drop, hs]
        rfl
      have hsl_len : s.length + at_ + 1 = cs.length := by
        have := congrArg List.length hs
        simp only [List.length_drop, List.length_cons] at this
        omega
      have q1 := fun μ => v_eq_S (neg := false) (μ := μ) (l := [c]) (m := [105]) (asc1 hc) (by simp)
      cases ho : one c with
      | some t =>
        have hg := get_plain c
        rw [ho] at hg
        refine trim0_eq (ex := []) ?_ ?_
        · simp [ev_telling_from, startD, hsl2, hk0, hg, pt, ho, tRes, sz2]
          omega
        · simp [pt, ho, tRes, locB, locsB, loc0]
      | none =>
        have hg := get_plain c
        rw [ho] at hg
        by_cases h105 : c = 105
        · subst h105
          have hi := fun μ => v_int_from cs (at_ + 1) μ ha hl hat1
          rw [hs1] at hi
          have hi2 : ∀ μ : Store, m_int_from [.str (S cs), .int ((at_ : Int) + 1)] μ = some (intRes (at_ + 1) s, μ) := hi
          cases hb : brk 59 s with
          | none =>
            have hr : intRes (at_ + 1) s = .non := by unfold intRes; rw [hb]
            rw [hr] at hi2
            refine trim0_eq (ex := []) ?_ ?_
            · simp [ev_telling_from, startD, hsl2, hk0, hg, q1, l_i, hi2, pt, ho, hb, tRes]
            · simp [pt, ho, hb, tRes, locB]
          | some dq =>
            obtain ⟨ds, q⟩ := dq
            cases hp : pInt ds with
            | none =>
              have hr : intRes (at_ + 1) s = .non := by unfold intRes; rw [hb]; simp only [hp]
              rw [hr] at hi2
              refine trim0_eq (ex := []) ?_ ?_
              · simp [ev_telling_from, startD, hsl2, hk0, hg, q1, l_i, hi2, pt, ho, hb, hp, tRes]
              · simp [pt, ho, hb, hp, tRes, locB]
            | some i =>
              have hr : intRes (at_ + 1) s = .tup [.int i, .int ((at_ + 1 + ds.length + 1 : Nat) : Int)] := by unfold intRes; rw [hb]; simp only [hp]
              rw [hr] at hi2
              have hlen := congrArg List.length (brk_some hb)
              simp only [List.length_append, List.length_cons] at hlen
              refine trim0_eq (ex := []) ?_ ?_
              · simp [ev_telling_from, startD, hsl2, hk0, hg, q1, l_i, hi2, pt, ho, hb, hp, tRes, sz2, Tel.d]
                omega
              · simp [pt, ho, hb, hp, tRes, locB, locsB, Tel.d]
        · by_cases hd : c = 112 ∨ c = 99
          · have hdb : ∃ nm : String, tget tab_DOUBLE (S [c]) = some (.str (Str.ofString nm)) ∧ ∀ a b : Tel, (.tup [.str (Str.ofString nm), a.d, b.d] : D) = (if c = 112 then Tel.pair a b else Tel.cons a b).d := by
              rw [get_double c]
              rcases hd with rfl | rfl
              · exact ⟨"pair", rfl, fun a b => rfl⟩
              · exact ⟨"cons", rfl, fun a b => rfl⟩
            obtain ⟨nm, hdb1, hdb2⟩ := hdb
            have h1 := fun μ => v_telling_from k j cs (at_ + 1) μ (by omega) ha hl hat1
            rw [hs1] at h1
            have h1b : ∀ μ : Store, m_telling_from j [.str (S cs), .int ((at_ : Int) + 1), .int (k : Int)] μ = some (tRes cs.length (pt k s), μ) := h1
            have hkk : (k : Int) + 1 - 1 = k := by omega
            cases e1 : pt k s with
            | none =>
              rw [e1] at h1b
              refine trim0_eq (ex := []) ?_ ?_
              · simp [ev_telling_from, startD, hsl2, hk0, hg, q1, l_i, h105, hdb1, hkk, h1b, pt, ho, hd, e1, tRes]
              · simp [pt, ho, h105, hd, e1, tRes, locB]
            | some ar =>
              obtain ⟨a, r1⟩ := ar
              rw [e1] at h1b
              obtain ⟨u1, hu1, _⟩ := pt_facts k s a r1 e1
              have hr1 : r1.length ≤ s.length := by rw [hu1, List.length_append]; omega
              have hdr : cs.drop (cs.length - r1.length) = r1 := by
                have : cs.length - r1.length = (at_ + 1) + u1.length := by
                  have := congrArg List.length hu1
                  simp only [List.length_append] at this
                  omega
                rw [this, ← List.drop_drop, hs1, hu1, List.drop_left']
                rfl
              have h2 := fun μ => v_telling_from k j cs (cs.length - r1.length) μ (by omega) ha hl (by omega)
              rw [hdr] at h2
              cases e2 : pt k r1 with
              | none =>
                rw [e2] at h2
                refine trim0_eq (ex := []) ?_ ?_
                · simp [ev_telling_from, startD, hsl2, hk0, hg, q1, l_i, h105, hdb1, hkk, h1b, pt, ho, hd, e1, tRes, h2, e2]
                · simp [pt, ho, h105, hd, e1, e2, tRes, locB]
              | some br =>
                obtain ⟨b, r2⟩ := br
                rw [e2] at h2
                have h3 := hdb2 a b
                refine trim0_eq (ex := []) ?_ ?_
                · simp [ev_telling_from, startD, hsl2, hk0, hg, q1, l_i, h105, hdb1, hkk, h1b, pt, ho, hd, e1, tRes, h2, e2, sz2, sz3, h3]
                · simp [pt, ho, h105, hd, e1, e2, tRes, locB, locsB, loc0]
          · have hdb : tget tab_DOUBLE (S [c]) = none := by
              rw [get_double c, if_neg fun z => hd (.inl z), if_neg fun z => hd (.inr z)]
            refine trim0_eq (ex := []) ?_ ?_
            · simp [ev_telling_from, startD, hsl2, hk0, hg, q1, l_i, h105, hdb, pt, ho, hd, tRes]
            · simp [pt, ho, h105, hd, tRes, locB]
/-! ### telling_by, number_by -/
noncomputable def m_telling_by := trim0 (runF N_telling_by (ev_telling_by (m_telling_from 61)) 1)
def optT : Option Tel → D
  | none => .non
  | some t => t.d
def pb (cs : List Nat) : Option Tel := match pt 60 cs with
  | some (t, []) => some t
  | _ => none
theorem v_telling_by (cs : List Nat) (μ : Store) (ha : Asc cs) (hl : cs.length < 1000000) : m_telling_by [.str (S cs)] μ = some (optT (pb cs), μ) := by
  have hz : cs.length ≤ sizeLine := by rw [size_eq]; omega
  have h1 : ∀ μ : Store, m_telling_from 61 [.str (S cs), .int 0, .int 60] μ = some (tRes cs.length (pt 60 cs), μ) := fun μ => v_telling_from 60 61 cs 0 μ (by decide) ha hl (Nat.zero_le _)
  unfold pb
  cases e : pt 60 cs with
  | none =>
    rw [e] at h1
    refine trim0_eq (ex := []) ?_
    simp [ev_telling_by, startD, h1, tRes, optT]
  | some tr =>
    obtain ⟨t, r⟩ := tr
    rw [e] at h1
    obtain ⟨u, hu, _⟩ := pt_facts _ _ _ _ e
    have hlu := congrArg List.length hu
    simp only [List.length_append] at hlu
    cases r with
    | nil =>
      refine trim0_eq (ex := []) ?_ (loc0 t)
      simp [ev_telling_by, startD, h1, tRes, optT, v_len_str hz]
    | cons c r =>
      refine trim0_eq (ex := []) ?_
      simp only [List.length_cons] at hlu
      simp [ev_telling_by, startD, h1, tRes, optT, v_len_str hz, show ¬ ((cs.length - (r.length + 1) : Nat) : Int) = (cs.length : Int) by omega]
noncomputable def m_number_by := trim0 (runF N_number_by ev_number_by 1)
def pNum (cs : List Nat) : Option Int := if cs = [] ∨ 12 < cs.length ∨ digs cs = false then none else if showL (numOf cs) = cs then some (numOf cs) else none
def optI : Option Int → D
  | none => .non
  | some t => .int t
theorem digs_bare {cs : List Nat} (h : digs cs = true) : bare cs = cs := by
  unfold bare
  split
  · rename_i hm
    have : 45 ∈ cs := List.mem_of_mem_take (i := 1) (by rw [hm]; simp)
    have := digs_all h 45 this
    omega
  · rfl
theorem v_number_by (cs : List Nat) (μ : Store) (ha : Asc cs) (hl : cs.length < 1000000) : m_number_by [.str (S cs)] μ = some (optI (pNum cs), μ) := by
  have hz : cs.length ≤ sizeLine := by rw [size_eq]; omega
  have q2 := fun μ => v_eq_S (neg := false) (μ := μ) (l := cs) (m := []) ha (by simp)
  by_cases h1 : cs = []
  · subst h1
    refine trim0_eq (ex := []) ?_
    simp [ev_number_by, startD, l_em, q2, pNum, optI]
  · by_cases h3 : 12 < cs.length
    · refine trim0_eq (ex := []) ?_ ?_
      · simp [ev_number_by, startD, l_em, q2, pNum, optI, h1, h3, v_len_str hz, show (12 : Int) < (cs.length : Int) by omega]
      · simp [pNum, h1, h3, optI, locB]
    · obtain ⟨ex, h⟩ := all_signs (cs := cs) (ρ := [some (.str (S cs)), none]) (ρ' := [some (.str (S cs)), none]) (i := 1) (e := evCmp (dIn false) (evVar 1) (evC (.str "0123456789"))) (μ := μ) (fun c => decide (c ∈ figL)) (by omega)
        (fun c hc acc ex => ⟨ex, by simp [l_fig, v_in_sign]⟩)
      cases h2 : digs cs with
      | false =>
        have h' := h2
        unfold digs at h'
        rw [h'] at h
        refine trim0_eq (ex := ex) ?_ ?_
        · simp [-kComp_s, ev_number_by, startD, l_em, q2, h1, h, pNum, h2, h3, v_len_str hz, show ¬ (12 : Int) < (cs.length : Int) by omega, optI]
        · simp [pNum, h1, h3, h2, optI, locB]
      | true =>
        have h' := h2
        unfold digs at h'
        rw [h'] at h
        have hb := digs_bare h2
        obtain ⟨n1, n2⟩ := num_bare (by rw [hb]; exact h1) (by rw [hb]; exact h2) (by rw [hb]; omega)
        have q3 := fun μ => v_eq_S (neg := false) (μ := μ) (l := showL (numOf cs)) (m := cs) (asc_show _) ha
        refine trim0_eq (ex := ex) ?_ ?_
        · by_cases h4 : showL (numOf cs) = cs
          · have d4 := fun μ => dStr_S n2 μ
            rw [h4] at q3 d4
            simp [-kComp_s, ev_number_by, startD, l_em, q2, h1, h, pNum, h2, h3, v_len_str hz, show ¬ (12 : Int) < (cs.length : Int) by omega, optI, dInt_S n1 (by omega), d4, q3, h4]
          · simp [-kComp_s, ev_number_by, startD, l_em, q2, h1, h, pNum, h2, h3, v_len_str hz, show ¬ (12 : Int) < (cs.length : Int) by omega, optI, dInt_S n1 (by omega), dStr_S n2, q3, h4]
        · unfold pNum
          split
          · rfl
          · split <;> rfl
theorem pNum_show {n : Int} (h : isN n = true) : pNum (showL n) = some n := by
  have hab := isN_abs h
  have hrd := showL_read hab
  have hn : numOf (showL n) = n := by unfold numOf; rw [hrd]; rfl
  unfold isN at h
  simp only [Bool.and_eq_true, decide_eq_true_eq] at h
  cases n with
  | negSucc n => have := h.1; omega
  | ofNat m =>
    have e : showL (Int.ofNat m) = TL.numL m := showL_nat m
    rw [e] at hn ⊢
    unfold pNum
    have hlen : (TL.numL m).length ≤ 12 := TL.numL_len (by decide) (by
      have : (10 : Nat) ^ 12 = 1000000000000 := by decide
      have := h.2
      simp only [Int.ofNat_eq_natCast] at this
      omega)
    rw [if_neg (by
      rintro (z | z | z)
      · exact TL.numL_ne m z
      · omega
      · rw [digs_of (TL.numL_digits m)] at z; cases z), hn, e, if_pos rfl]
end K73
set_option Elab.async false
set_option linter.all false
set_option maxRecDepth 100000
namespace K73
open PySem PySem.Spec PyProof.Rows L2 PDL SX Tel
/-! ### record_by -/
theorem tg_eq {x : String} {l : List Nat} : (S l = Str.ofString x) = (l = tgL x) := by rw [tgS x, S_eq]
theorem asc_tg : Asc (tgL "program") ∧ Asc (tgL "inputs") ∧ Asc (tgL "set") ∧ Asc (tgL "told") ∧ Asc (tgL "kept") := by
  unfold Asc
  decide +kernel
theorem v_eq_tag {p : List Nat} {x : String} {μ : Store} {neg : Bool} (h : Asc p) : dEqv neg (.str (S p)) (.str (Str.ofString x)) μ = some (if neg then !decide (p = tgL x) else decide (p = tgL x)) := by
  rw [v_eq_str (strOk_S h) (strOk_ofS x)]
  simp only [tg_eq]
theorem e_eqv_tag {p : List Nat} {x : String} : PyData.eqv (.str (Str.ofString x)) (.str (S p)) = decide (p = tgL x) := by
  show (Str.ofString x == S p) = _
  rw [tgS x, S_beq']
  by_cases h : p = tgL x
  · rw [h]
  · rw [decide_eq_false h, decide_eq_false (fun z => h z.symm)]
theorem v_in_two {p : List Nat} {x y : String} {μ : Store} (h : Asc p) : dIn false (.str (S p)) (.tup [.str (Str.ofString x), .str (Str.ofString y)]) μ = some (decide (p = tgL x) || decide (p = tgL y)) := by
  have h1 : PyData.canLay0 (.str (S p)) = true := strOk_S h
  simp [h1, e_eqv_tag]
theorem e_non_tel (t : Tel) : PyData.eqv t.p .none = false := by cases t <;> simp [p, PyData.eqv]
theorem pyD_optT (a : Option Tel) : pyD (optT a) = some (match a with | none => .none | some t => t.p) := by
  cases a with
  | none => rfl
  | some t => exact Tel.pyD_d t
theorem pyD_optI (a : Option Int) : pyD (optI a) = some (match a with | none => .none | some t => .int t) := by cases a <;> rfl
theorem e_non_optT (a : Option Tel) : PyData.eqv (match a with | none => .none | some t => t.p) .none = !a.isSome := by
  cases a with
  | none => simp [PyData.eqv]
  | some t => simp [e_non_tel]
theorem e_non_optI (a : Option Int) : PyData.eqv (match a with | none => .none | some t => .int t) .none = !a.isSome := by
  cases a <;> simp [PyData.eqv]
theorem lay_optT (a : Option Tel) : PyData.canLay0 (match a with | none => .none | some t => t.p) = true := by
  cases a with
  | none => rfl
  | some t => exact t.lay
theorem lay_optI (a : Option Int) : PyData.canLay0 (match a with | none => .none | some t => .int t) = true := by cases a <;> rfl
theorem e_non_str (s : Str) : PyData.eqv (.str s) .none = false := by simp [PyData.eqv]
theorem n_text {x : String} {t : List Nat} {μ : Store} (h : Asc t) : dIn true .non (.tup [.str (Str.ofString x), .str (S t)]) μ = some true := by
  have h1 : PyData.canLay0 (.str (S t)) = true := strOk_S h
  simp [h1, e_non_str]
theorem n_set {nm : List Nat} {a b : Option Tel} {μ : Store} (h : Asc nm) : dIn true .non (.tup [.str "set", .str (S nm), optT a, optT b]) μ = some (a.isSome && b.isSome) := by
  have h1 : PyData.canLay0 (.str (S nm)) = true := strOk_S h
  rw [v_in_non]
  have e : pyL [.str "set", .str (S nm), optT a, optT b] = some [.str "set", .str (S nm), (match a with | none => .none | some t => t.p), (match b with | none => .none | some t => t.p)] := by
    simp only [v_pyL, v_pyD_str, kPb_s, pyD_optT, v_pyL_nil, kPc_s]
  rw [e]
  simp only [kIn_s, e_lay_non, e_lay_cons, e_lay_str, h1, lay_optT, e_lay_nil, Bool.and_self, e_dep_non, Nat.zero_le, and_self, if_true, List.any_cons, List.any_nil, e_non_str, e_non_optT, Bool.or_false, Bool.false_or]
  cases a <;> cases b <;> rfl
theorem n_told {a : Option Tel} {b : Option Int} {μ : Store} : dIn true .non (.tup [.str "told", optT a, optI b]) μ = some (a.isSome && b.isSome) := by
  rw [v_in_non]
  have e : pyL [.str "told", optT a, optI b] = some [.str "told", (match a with | none => .none | some t => t.p), (match b with | none => .none | some t => .int t)] := by
    simp only [v_pyL, v_pyD_str, kPb_s, pyD_optT, pyD_optI, v_pyL_nil, kPc_s]
  rw [e]
  simp only [kIn_s, e_lay_non, e_lay_cons, e_lay_str, lay_optT, lay_optI, e_lay_nil, Bool.and_self, e_dep_non, Nat.zero_le, and_self, if_true, List.any_cons, List.any_nil, e_non_str, e_non_optT, e_non_optI, Bool.or_false, Bool.false_or]
  cases a <;> cases b <;> rfl
theorem n_kept {a b : Option Int} {μ : Store} : dIn true .non (.tup [.str "kept", optI a, optI b]) μ = some (a.isSome && b.isSome) := by
  rw [v_in_non]
  have e : pyL [.str "kept", optI a, optI b] = some [.str "kept", (match a with | none => .none | some t => .int t), (match b with | none => .none | some t => .int t)] := by
    simp only [v_pyL, v_pyD_str, kPb_s, pyD_optI, v_pyL_nil, kPc_s]
  rw [e]
  simp only [kIn_s, e_lay_non, e_lay_cons, e_lay_str, lay_optI, e_lay_nil, Bool.and_self, e_dep_non, Nat.zero_le, and_self, if_true, List.any_cons, List.any_nil, e_non_str, e_non_optI, Bool.or_false, Bool.false_or]
  cases a <;> cases b <;> rfl
noncomputable def m_record_by := trim0 (runF N_record_by (ev_record_by m_telling_by m_number_by m_is_record_of) 1)
def optR : Option Rec → D
  | none => .non
  | some r => r.d
def rbSet (rest : List (List Nat)) : Option Rec := match rest with
  | [nm, x, y] => (match pb x, pb y with
    | some a, some b => some (.set nm a b)
    | _, _ => none)
  | _ => none
def rbTold (rest : List (List Nat)) : Option Rec := match rest with
  | [x, y] => (match pb x, pNum y with
    | some a, some b => some (.told a b)
    | _, _ => none)
  | _ => none
def rbKept (rest : List (List Nat)) : Option Rec := match rest with
  | [x, y] => (match pNum x, pNum y with
    | some a, some b => some (.kept a b)
    | _, _ => none)
  | _ => none
def rbW (wd : List Nat) (rest : List (List Nat)) : Option Rec :=
  if wd = tgL "program" then some (.prog (rp 92 10 (TL.joinL [32] rest)))
  else if wd = tgL "inputs" then some (.inp (rp 92 10 (TL.joinL [32] rest)))
  else if wd = tgL "set" then rbSet rest
  else if wd = tgL "told" then rbTold rest
  else if wd = tgL "kept" then rbKept rest
  else none
theorem pb_size {cs : List Nat} {t : Tel} (h : pb cs = some t) : t.size ≤ cs.length := by
  unfold pb at h
  split at h
  · rename_i t' e
    cases h
    obtain ⟨u, h1, h2, _⟩ := pt_facts _ _ _ _ e
    rw [h1, List.length_append]
    omega
  · cases h
theorem asc_join {k : List Nat} (hk : Asc k) : ∀ ls : List (List Nat), (∀ l ∈ ls, Asc l) → Asc (TL.joinL k ls)
  | [], _ => fun c hc => by cases hc
  | [x], h => h x (List.mem_cons_self ..)
  | x :: y :: r, h => fun c hc => by
    have hc2 : c ∈ x ++ (k ++ TL.joinL k (y :: r)) := hc
    rcases List.mem_append.mp hc2 with hc | hc
    · exact h x (List.mem_cons_self ..) c hc
    · rcases List.mem_append.mp hc with hc | hc
      · exact hk c hc
      · exact asc_join hk (y :: r) (fun l hl => h l (List.mem_cons_of_mem _ hl)) c hc
theorem asc_rp {t : List Nat} (h : Asc t) : Asc (rp 92 10 t) := fun c hc => by
  obtain ⟨x, hx, e⟩ := List.mem_map.mp hc
  have := h x hx
  split at e <;> omega
theorem len_rp (a b : Nat) (t : List Nat) : (rp a b t).length = t.length := by simp [rp]
def Tot (ls : List (List Nat)) : Nat := (ls.map List.length).sum + ls.length
theorem tot_mem {ls : List (List Nat)} {l : List Nat} (h : l ∈ ls) : l.length ≤ Tot ls := by
  have key : ∀ ls : List (List Nat), l ∈ ls → l.length ≤ (ls.map List.length).sum := by
    intro ls
    induction ls with
    | nil => intro h; cases h
    | cons x r ih =>
      intro h
      rw [List.map_cons, List.sum_cons]
      rcases List.mem_cons.mp h with rfl | h
      · omega
      · have := ih h
        omega
  have := key ls h
  unfold Tot
  omega
theorem join_tot (ls : List (List Nat)) : (TL.joinL [32] ls).length ≤ Tot ls := by
  have := joinL_len [32] ls
  simp only [List.length_cons, List.length_nil] at this
  unfold Tot
  omega
theorem rb_fit {wd : List Nat} {rest : List (List Nat)} {r : Rec} (h : rbW wd rest = some r) (ha : ∀ l ∈ rest, Asc l) (ht : Tot rest < 1000000) : r.Fit := by
  have hj := join_tot rest
  have haj := asc_rp (asc_join (k := [32]) (by intro c hc; simp at hc; omega) rest ha)
  unfold rbW at h
  split at h
  · cases h
    exact ⟨haj, by rw [len_rp]; omega⟩
  · split at h
    · cases h
      exact ⟨haj, by rw [len_rp]; omega⟩
    · split at h
      · unfold rbSet at h
        split at h
        · rename_i nm x y
          split at h
          · rename_i a b ea eb
            cases h
            have h1 := tot_mem (ls := [nm, x, y]) (l := nm) (by simp)
            have h2 := tot_mem (ls := [nm, x, y]) (l := x) (by simp)
            have h3 := tot_mem (ls := [nm, x, y]) (l := y) (by simp)
            have h4 := pb_size ea
            have h5 := pb_size eb
            exact ⟨ha nm (by simp), by omega, by omega, by omega⟩
          · cases h
        · cases h
      · split at h
        · unfold rbTold at h
          split at h
          · rename_i x y
            split at h
            · rename_i a b ea eb
              cases h
              have h2 := tot_mem (ls := [x, y]) (l := x) (by simp)
              have h4 := pb_size ea
              exact Nat.lt_of_le_of_lt h4 (by omega)
            · cases h
          · cases h
        · split at h
          · unfold rbKept at h
            split at h
            · split at h
              · cases h
                trivial
              · cases h
            · cases h
          · cases h
theorem opt_loc (o : Option Rec) : locB 0 (optR o) = true := by
  cases o with
  | none => rfl
  | some r => exact r.loc0
noncomputable def rb_ifc : EvS := evIfS (evTCmp (dIn false) (evVar 1) (evTup (evCons (evC (.str "program")) (evCons (evC (.str "inputs")) evNil))))
  (evAsg (evTup (evCons (evVar 1) (evCons (evRepl "\\" "\n" (evMeth "str" dJoin (evC (.str " ")) (evCons (evVar 2) evNil))) evNil))) (egName 3))
  (evIfS (evAndT (evTCmp (dEqv false) (evVar 1) (evC (.str "set"))) (evTCmp (dEqv false) (evCall dLen (evCons (evVar 2) evNil)) (evC (.int 3))))
  (evAsg (evTup (evCons (evC (.str "set")) (evCons (evBin dIx (evVar 2) (evC (.int 0))) (evCons (evCall m_telling_by (evCons (evBin dIx (evVar 2) (evC (.int 1))) evNil)) (evCons (evCall m_telling_by (evCons (evBin dIx (evVar 2) (evC (.int 2))) evNil)) evNil))))) (egName 3))
  (evIfS (evAndT (evTCmp (dEqv false) (evVar 1) (evC (.str "told"))) (evTCmp (dEqv false) (evCall dLen (evCons (evVar 2) evNil)) (evC (.int 2))))
  (evAsg (evTup (evCons (evC (.str "told")) (evCons (evCall m_telling_by (evCons (evBin dIx (evVar 2) (evC (.int 0))) evNil)) (evCons (evCall m_number_by (evCons (evBin dIx (evVar 2) (evC (.int 1))) evNil)) evNil)))) (egName 3))
  (evIfS (evAndT (evTCmp (dEqv false) (evVar 1) (evC (.str "kept"))) (evTCmp (dEqv false) (evCall dLen (evCons (evVar 2) evNil)) (evC (.int 2))))
  (evAsg (evTup (evCons (evC (.str "kept")) (evCons (evCall m_number_by (evCons (evBin dIx (evVar 2) (evC (.int 0))) evNil)) (evCons (evCall m_number_by (evCons (evBin dIx (evVar 2) (evC (.int 1))) evNil)) evNil)))) (egName 3))
  (evRet (evC .non)))))
noncomputable def rb_ret : EvS := evRet (evIf (evAndT (evTCmp (dIn true) (evC .non) (evVar 3)) (evTest (evCall m_is_record_of (evCons (evVar 3) evNil)))) (evVar 3) (evC .non))
theorem rb_ev : ev_record_by m_telling_by m_number_by m_is_record_of = evSeq (evPar 1 2 (evCons (evBin dIx (evVar 0) (evC (.int 0))) (evCons (evSl dSl (evVar 0) (evOSome (evC (.int 1))) evONone) evNil))) (evSeq rb_ifc rb_ret) := rfl
/-- what the choice lays down as found, and the record that it stands for -/
def Found (d : D) (o : Option Rec) (μ : Store) : Prop := match o with
  | some r => d = r.d ∧ dIn true .non d μ = some true
  | none => dIn true .non d μ = some false
theorem rb_choice (wd : List Nat) (rest : List (List Nat)) (μ1 : Store) (n m : Nat) (hr1 : μ1[m]? = some (.lst (rest.map fun l => .str (S l)))) (haw : Asc wd) (ha : ∀ l ∈ rest, Asc l) (ht : Tot rest < 1000000) :
    (rbW wd rest = none ∧ rb_ifc [some (.loc n), some (.str (S wd)), some (.loc m), none] μ1 = some (.rt .non, [some (.loc n), some (.str (S wd)), some (.loc m), none], μ1)) ∨
    ∃ d, rb_ifc [some (.loc n), some (.str (S wd)), some (.loc m), none] μ1 = some (.nx, [some (.loc n), some (.str (S wd)), some (.loc m), some d], μ1) ∧ Found d (rbW wd rest) μ1 := by
  have hlen := v_len_loc hr1
  rw [List.length_map] at hlen
  have hin2 := v_in_two (p := wd) (x := "program") (y := "inputs") (μ := μ1) haw
  have htag := fun x => v_eq_tag (p := wd) (x := x) (μ := μ1) (neg := false) haw
  have hjt := join_tot rest
  have hj := v_join (μ := μ1) (n := m) (k := [32]) (ls := rest) hr1 (by
    unfold Tot at ht
    simp only [List.length_cons, List.length_nil]
    omega)
  have hrl : (S (TL.joinL [32] rest)).length + ((S (TL.joinL [32] rest)).length + 1) * (S [10]).length ≤ 16777216 := by
    rw [S_len, S_len]
    simp only [List.length_cons, List.length_nil]
    omega
  have hasc := asc_rp (asc_join (k := [32]) (by intro c hc; simp at hc; omega) rest ha)
  have hst : ∀ (x : String) (h : wd = tgL x), (D.str (S wd)) = .str (Str.ofString x) := fun x h => by rw [h, tgS x]
  have s4 : (4 : Nat) ≤ sizeLine := by decide
  have hix := fun i => v_ix_loc (i := i) hr1
  by_cases w1 : wd = tgL "program"
  · have hin3 : dIn false (.str (S wd)) (.tup [.str "program", .str "inputs"]) μ1 = some true := by rw [hin2, decide_eq_true w1]; rfl
    refine .inr ⟨.tup [.str (S wd), .str (S (rp 92 10 (TL.joinL [32] rest)))], ?_, ?_⟩
    · simp [-v_in_str, rb_ifc, sz2, hin3, l_bs, l_nl, l_sp, hj, hrl, repl_S, sz2]
    · have hw : rbW wd rest = some (.prog (rp 92 10 (TL.joinL [32] rest))) := by unfold rbW; rw [if_pos w1]
      rw [hw, hst _ w1]
      exact ⟨rfl, n_text hasc⟩
  · by_cases w2 : wd = tgL "inputs"
    · have hin3 : dIn false (.str (S wd)) (.tup [.str "program", .str "inputs"]) μ1 = some true := by rw [hin2, decide_eq_true w2, Bool.or_true]
      refine .inr ⟨.tup [.str (S wd), .str (S (rp 92 10 (TL.joinL [32] rest)))], ?_, ?_⟩
      · simp [-v_in_str, rb_ifc, sz2, hin3, l_bs, l_nl, l_sp, hj, hrl, repl_S, sz2]
      · have hw : rbW wd rest = some (.inp (rp 92 10 (TL.joinL [32] rest))) := by unfold rbW; rw [if_neg w1, if_pos w2]
        rw [hw, hst _ w2]
        exact ⟨rfl, n_text hasc⟩
    · have hin3 : dIn false (.str (S wd)) (.tup [.str "program", .str "inputs"]) μ1 = some false := by rw [hin2, decide_eq_false w1, decide_eq_false w2]; rfl
      have tno : ∀ x, ¬ wd = tgL x → dEqv false (.str (S wd)) (.str (Str.ofString x)) μ1 = some false := fun x h => by rw [htag x, decide_eq_false h]; rfl
      have tyes : ∀ x, wd = tgL x → dEqv false (.str (S wd)) (.str (Str.ofString x)) μ1 = some true := fun x h => by rw [htag x, decide_eq_true h]; rfl
      by_cases w3 : wd = tgL "set"
      · have w4 : ¬ wd = tgL "told" := by rw [w3]; decide +kernel
        have w5 : ¬ wd = tgL "kept" := by rw [w3]; decide +kernel
        have hw : rbW wd rest = rbSet rest := by unfold rbW; rw [if_neg w1, if_neg w2, if_pos w3]
        rw [hw]
        by_cases hl : rest.length = 3
        · obtain ⟨x, y, z, rfl⟩ : ∃ x y z, rest = [x, y, z] := by
            match rest, hl with
            | [x, y, z], _ => exact ⟨x, y, z, rfl⟩
          have ax := ha x (by simp)
          have ay := ha y (by simp)
          have az := ha z (by simp)
          have ty := tot_mem (ls := [x, y, z]) (l := y) (by simp)
          have tz := tot_mem (ls := [x, y, z]) (l := z) (by simp)
          refine .inr ⟨.tup [.str "set", .str (S x), optT (pb y), optT (pb z)], ?_, ?_⟩
          · simp at hlen
            simp [-v_in_str, rb_ifc, sz2, hin3, tyes "set" w3, hlen, hix, v_telling_by y _ ay (by omega), v_telling_by z _ az (by omega), s4]
          · show Found _ (match pb y, pb z with
              | some a, some b => some (Rec.set x a b)
              | _, _ => none) μ1
            have hn := n_set (nm := x) (a := pb y) (b := pb z) (μ := μ1) ax
            cases ey : pb y with
            | none => rw [ey] at hn; exact hn
            | some a =>
              cases ez : pb z with
              | none => rw [ey, ez] at hn; exact hn
              | some b => rw [ey, ez] at hn; exact ⟨rfl, hn⟩
        · have hl' : ¬ (rest.length : Int) = 3 := by omega
          refine .inl ⟨?_, ?_⟩
          · unfold rbSet
            split
            · exact absurd rfl hl
            · rfl
          · simp [-v_in_str, rb_ifc, sz2, hin3, tyes "set" w3, tno "told" w4, tno "kept" w5, hlen, hl']
      · by_cases w4 : wd = tgL "told"
        · have w5 : ¬ wd = tgL "kept" := by rw [w4]; decide +kernel
          have hw : rbW wd rest = rbTold rest := by unfold rbW; rw [if_neg w1, if_neg w2, if_neg w3, if_pos w4]
          rw [hw]
          by_cases hl : rest.length = 2
          · obtain ⟨x, y, rfl⟩ : ∃ x y, rest = [x, y] := by
              match rest, hl with
              | [x, y], _ => exact ⟨x, y, rfl⟩
            have ax := ha x (by simp)
            have ay := ha y (by simp)
            have tx := tot_mem (ls := [x, y]) (l := x) (by simp)
            have ty := tot_mem (ls := [x, y]) (l := y) (by simp)
            refine .inr ⟨.tup [.str "told", optT (pb x), optI (pNum y)], ?_, ?_⟩
            · simp at hlen
              simp [-v_in_str, rb_ifc, sz2, hin3, tno "set" w3, tyes "told" w4, hlen, hix, v_telling_by x _ ax (by omega), v_number_by y _ ay (by omega), sz3]
            · show Found _ (match pb x, pNum y with
                | some a, some b => some (Rec.told a b)
                | _, _ => none) μ1
              have hn := n_told (a := pb x) (b := pNum y) (μ := μ1)
              cases ex : pb x with
              | none => rw [ex] at hn; exact hn
              | some a =>
                cases ey : pNum y with
                | none => rw [ex, ey] at hn; exact hn
                | some b => rw [ex, ey] at hn; exact ⟨rfl, hn⟩
          · have hl' : ¬ (rest.length : Int) = 2 := by omega
            refine .inl ⟨?_, ?_⟩
            · unfold rbTold
              split
              · exact absurd rfl hl
              · rfl
            · simp [-v_in_str, rb_ifc, sz2, hin3, tno "set" w3, tyes "told" w4, tno "kept" w5, hlen, hl']
        · by_cases w5 : wd = tgL "kept"
          · have hw : rbW wd rest = rbKept rest := by unfold rbW; rw [if_neg w1, if_neg w2, if_neg w3, if_neg w4, if_pos w5]
            rw [hw]
            by_cases hl : rest.length = 2
            · obtain ⟨x, y, rfl⟩ : ∃ x y, rest = [x, y] := by
                match rest, hl with
                | [x, y], _ => exact ⟨x, y, rfl⟩
              have ax := ha x (by simp)
              have ay := ha y (by simp)
              have tx := tot_mem (ls := [x, y]) (l := x) (by simp)
              have ty := tot_mem (ls := [x, y]) (l := y) (by simp)
              refine .inr ⟨.tup [.str "kept", optI (pNum x), optI (pNum y)], ?_, ?_⟩
              · simp at hlen
                simp [-v_in_str, rb_ifc, sz2, hin3, tno "set" w3, tno "told" w4, tyes "kept" w5, hlen, hix, v_number_by x _ ax (by omega), v_number_by y _ ay (by omega), sz3]
              · show Found _ (match pNum x, pNum y with
                  | some a, some b => some (Rec.kept a b)
                  | _, _ => none) μ1
                have hn := n_kept (a := pNum x) (b := pNum y) (μ := μ1)
                cases ex : pNum x with
                | none => rw [ex] at hn; exact hn
                | some a =>
                  cases ey : pNum y with
                  | none => rw [ex, ey] at hn; exact hn
                  | some b => rw [ex, ey] at hn; exact ⟨rfl, hn⟩
            · have hl' : ¬ (rest.length : Int) = 2 := by omega
              refine .inl ⟨?_, ?_⟩
              · unfold rbKept
                split
                · exact absurd rfl hl
                · rfl
              · simp [-v_in_str, rb_ifc, sz2, hin3, tno "set" w3, tno "told" w4, tyes "kept" w5, hlen, hl']
          · refine .inl ⟨?_, ?_⟩
            · unfold rbW
              rw [if_neg w1, if_neg w2, if_neg w3, if_neg w4, if_neg w5]
            · simp [-v_in_str, rb_ifc, sz2, hin3, tno "set" w3, tno "told" w4, tno "kept" w5]
theorem v_record_by (wd : List Nat) (rest : List (List Nat)) (μ : Store) (n : Nat) (hn : μ[n]? = some (.lst ((wd :: rest).map fun l => .str (S l)))) (haw : Asc wd) (ha : ∀ l ∈ rest, Asc l) (ht : Tot rest < 1000000) :
    ∃ o, m_record_by [.loc n] μ = some (optR o, μ) ∧ (∀ r, o = some r → rbW wd rest = some r ∧ r.Fit) ∧ (∀ r, rbW wd rest = some r → r.Good → o = some r) := by
  have hix0 := v_ix_loc (i := 0) hn
  have hsl := v_sl_loc (lo := some 1) (hi := none) hn
  have hcut : cutD ((wd :: rest).map fun l => D.str (S l)) (some 1) none = rest.map fun l => .str (S l) := by
    have := cutD_a ((wd :: rest).map fun l => D.str (S l)) 1
    exact this
  rw [hcut] at hsl
  simp only [List.map_cons, atI_z, List.getElem?_cons_zero, Option.map_some] at hix0
  obtain ⟨μ1, e1⟩ : ∃ μ1, μ1 = μ ++ [MO.lst (rest.map fun l => .str (S l))] := ⟨_, rfl⟩
  have hr1 : μ1[μ.length]? = some (.lst (rest.map fun l => .str (S l))) := by rw [e1]; exact get_last
  rw [← e1] at hsl
  have run : runF N_record_by (ev_record_by m_telling_by m_number_by m_is_record_of) 1 [.loc n] μ = kRun (kSeq rb_ret (rb_ifc [some (.loc n), some (.str (S wd)), some (.loc μ.length), none] μ1)) := by
    have e2 : evPar 1 2 (evCons (evBin dIx (evVar 0) (evC (.int 0))) (evCons (evSl dSl (evVar 0) (evOSome (evC (.int 1))) evONone) evNil)) [some (.loc n), none, none, none] μ = some (.nx, [some (.loc n), some (.str (S wd)), some (.loc μ.length), none], μ1) := by
      simp [hix0, hsl]
    have e3 : startD N_record_by [.loc n] = [some (.loc n), none, none, none] := rfl
    rw [rb_ev, s_runF, if_pos (show [D.loc n].length = 1 from rfl), e3, s_evSeq, e2, kSeq_n, s_evSeq]
  have tr : ∀ o : Option Rec, runF N_record_by (ev_record_by m_telling_by m_number_by m_is_record_of) 1 [.loc n] μ = some (optR o, μ1) → m_record_by [.loc n] μ = some (optR o, μ) := fun o h => by
    rw [e1] at h
    exact trim0_eq h (opt_loc o)
  rcases rb_choice wd rest μ1 n μ.length hr1 haw ha ht with ⟨h1, h2⟩ | ⟨d, h1, h2⟩
  · refine ⟨none, tr none ?_, fun r e => (by cases e), fun r e => (by rw [h1] at e; cases e)⟩
    rw [run, h2]
    rfl
  · cases ho : rbW wd rest with
    | none =>
      rw [ho] at h2
      have h3 : dIn true .non d μ1 = some false := h2
      refine ⟨none, tr none ?_, fun r e => (by cases e), fun r e => (by cases e)⟩
      rw [run, h1]
      simp [-v_in_non, rb_ret, h3, optR]
    | some r =>
      rw [ho] at h2
      obtain ⟨rfl, h3⟩ := h2
      have hf := rb_fit ho ha ht
      obtain ⟨b, g1, g2⟩ := v_is_record_of r μ1 hf
      refine ⟨if b then some r else none, tr _ ?_, fun r' e => ?_, fun r' e g => ?_⟩
      · rw [run, h1]
        cases b <;> simp [-v_in_non, rb_ret, h3, g1, optR]
      · cases b with
        | false => cases e
        | true => cases e; exact ⟨rfl, hf⟩
      · cases e
        rw [g2 g]
        rfl
end K73
set_option Elab.async false
set_option linter.all false
set_option maxRecDepth 100000
namespace K73
open PySem PySem.Spec PyProof.Rows L2 PDL SX Tel
/-! ### parts -/
def P (cs : List Nat) : List (List Nat) := TL.spl [32] 0 [] cs
theorem P_join (cs : List Nat) : TL.joinL [32] (P cs) = cs := by
  have h := PySem.StrLaws.join_split (S cs) (S [32])
  rw [← TL.join_eq, split_S (by simp) (by decide), join_S] at h
  exact S_inj h
theorem P_ne (cs : List Nat) : P cs ≠ [] := by
  intro h
  have := PyProof.Rows.split_pos (S cs) (S [32])
  rw [split_S (by simp) (by decide)] at this
  unfold P at h
  rw [h] at this
  simp at this
theorem P_free (cs : List Nat) : ∀ p ∈ P cs, 32 ∉ p := fun p hp => by
  have h := PySem.StrLaws.split_free (S cs) 32 (S p) (by
    rw [show (⟨#[32]⟩ : Str) = S [32] from rfl, split_S (by simp) (by decide)]
    exact List.mem_map.mpr ⟨p, hp, rfl⟩)
  exact h
theorem P_of_join {ls : List (List Nat)} (h : ls ≠ []) (hf : ∀ p ∈ ls, 32 ∉ p) : P (TL.joinL [32] ls) = ls := SX.spl_join (c := 32) (sep := []) h hf
theorem join_cons (p : List Nat) {ls : List (List Nat)} (h : ls ≠ []) : TL.joinL [32] (p :: ls) = p ++ 32 :: TL.joinL [32] ls := by
  cases ls with
  | nil => exact absurd rfl h
  | cons x r => rfl
theorem join_snoc : ∀ (ls : List (List Nat)) (q : List Nat), ls ≠ [] → TL.joinL [32] (ls ++ [q]) = TL.joinL [32] ls ++ 32 :: q
  | [], _, h => absurd rfl h
  | [x], q, _ => rfl
  | x :: y :: r, q, _ => by
    rw [List.cons_append, join_cons x (by simp), join_snoc (y :: r) q (by simp), join_cons x (by simp)]
    simp
theorem P_cons {p : List Nat} (q : List Nat) (h : 32 ∉ p) : P (p ++ 32 :: q) = p :: P q := by
  have e : p ++ 32 :: q = TL.joinL [32] (p :: P q) := by rw [join_cons p (P_ne q), P_join]
  rw [e]
  refine P_of_join (by simp) fun x hx => ?_
  rcases List.mem_cons.mp hx with rfl | hx
  · exact h
  · exact P_free q x hx
theorem P_one {p : List Nat} (h : 32 ∉ p) : P p = [p] := P_of_join (ls := [p]) (by simp) fun x hx => by rw [List.mem_singleton.mp hx]; exact h
theorem P_snoc (h : List Nat) {q : List Nat} (hq : 32 ∉ q) : P (h ++ 32 :: q) = P h ++ [q] := by
  have e : h ++ 32 :: q = TL.joinL [32] (P h ++ [q]) := by rw [join_snoc _ _ (P_ne h), P_join]
  rw [e]
  refine P_of_join (by simp) fun x hx => ?_
  rcases List.mem_append.mp hx with hx | hx
  · exact P_free h x hx
  · rw [List.mem_singleton.mp hx]
    exact hq
theorem join_len_eq : ∀ (ls : List (List Nat)), ls ≠ [] → (TL.joinL [32] ls).length + 1 = Tot ls
  | [], h => absurd rfl h
  | [x], _ => by
    show x.length + 1 = _
    simp [Tot]
  | x :: y :: r, _ => by
    have := join_len_eq (y :: r) (by simp)
    rw [join_cons x (by simp)]
    simp only [Tot, List.length_append, List.length_cons, List.map_cons, List.sum_cons] at this ⊢
    omega
theorem P_tot (cs : List Nat) : Tot (P cs) = cs.length + 1 := by
  have := join_len_eq (P cs) (P_ne cs)
  rw [P_join] at this
  exact this.symm
theorem join_mem {k : List Nat} {c : Nat} : ∀ {ls : List (List Nat)} {l : List Nat}, l ∈ ls → c ∈ l → c ∈ TL.joinL k ls
  | [x], l, h, hc => by rw [List.mem_singleton.mp h] at hc; exact hc
  | x :: y :: r, l, h, hc => by
    show c ∈ x ++ (k ++ TL.joinL k (y :: r))
    rcases List.mem_cons.mp h with rfl | h
    · exact List.mem_append_left _ hc
    · exact List.mem_append_right _ (List.mem_append_right _ (join_mem h hc))
theorem P_asc {cs : List Nat} (h : Asc cs) : ∀ p ∈ P cs, Asc p := fun p hp c hc => h c (by
  have := join_mem (k := [32]) hp hc
  rw [P_join] at this
  exact this)
/-! ### record_in -/
noncomputable def m_record_in := trim0 (runF N_record_in (ev_record_in m_sum_of_signs m_record_by) 2)
def rbL : List (List Nat) → Option Rec
  | [] => none
  | wd :: rest => rbW wd rest
def Acc (n : Int) (cs : List Nat) (r : Rec) : Prop := 4 ≤ (P cs).length ∧ (P cs)[0]? = some (showL n) ∧ (P cs)[(P cs).length - 1]? = some (showL (sumI (TL.joinL [32] (P cs).dropLast))) ∧ rbL ((P cs).drop 1).dropLast = some r
theorem tot_sub {ls ms : List (List Nat)} (h : List.Sublist ls ms) : Tot ls ≤ Tot ms := by
  have h1 := h.length_le
  have h2 : (ls.map List.length).sum ≤ (ms.map List.length).sum := by
    induction h with
    | slnil => exact Nat.le_refl _
    | cons a _ ih => rw [List.map_cons, List.sum_cons]; have := ih (List.Sublist.length_le ‹_›); omega
    | cons_cons a _ ih => rw [List.map_cons, List.sum_cons, List.map_cons, List.sum_cons]; have := ih (List.Sublist.length_le ‹_›); omega
  unfold Tot
  omega
theorem v_record_in (n : Int) (cs : List Nat) (μ : Store) (hn : n.natAbs < 10 ^ 20) (ha : Asc cs) (hl : cs.length < 900000) :
    ∃ o, m_record_in [.int n, .str (S cs)] μ = some (optR o, μ) ∧ (∀ r, o = some r → r.Fit ∧ Acc n cs r) ∧ (∀ r, Acc n cs r → r.Good → o = some r) := by
  have hsp := v_split (μ := μ) (k := [32]) (l := cs) (by simp) (by decide) (by rw [size_eq]; omega)
  have ht := P_tot cs
  have hasc := P_asc ha
  have hpne := P_ne cs
  have hfold : TL.spl [32] 0 [] cs = P cs := rfl
  rw [hfold] at hsp
  obtain ⟨ps, hps⟩ : ∃ ps, ps = P cs := ⟨_, rfl⟩
  have hAcc : ∀ r, Acc n cs r ↔ (4 ≤ ps.length ∧ ps[0]? = some (showL n) ∧ ps[ps.length - 1]? = some (showL (sumI (TL.joinL [32] ps.dropLast))) ∧ rbL (ps.drop 1).dropLast = some r) := fun r => by unfold Acc; rw [← hps]
  rw [← hps] at hsp ht hasc hpne
  simp only [hAcc]
  have tr : ∀ (o : Option Rec) (ex : Store), runF N_record_in (ev_record_in m_sum_of_signs m_record_by) 2 [.int n, .str (S cs)] μ = some (optR o, μ ++ ex) → m_record_in [.int n, .str (S cs)] μ = some (optR o, μ) := fun o ex h => trim0_eq h (opt_loc o)
  obtain ⟨μ1, e1⟩ : ∃ μ1, μ1 = μ ++ [MO.lst (ps.map fun l => .str (S l))] := ⟨_, rfl⟩
  have hn1 : μ1[μ.length]? = some (.lst (ps.map fun l => .str (S l))) := by rw [e1]; exact get_last
  rw [← e1] at hsp
  have hlen := v_len_loc hn1
  rw [List.length_map] at hlen
  have hix := fun i => v_ix_loc (i := i) hn1
  have nope : runF N_record_in (ev_record_in m_sum_of_signs m_record_by) 2 [.int n, .str (S cs)] μ = some (.non, μ1) → (∀ r, ¬ (4 ≤ ps.length ∧ ps[0]? = some (showL n) ∧ ps[ps.length - 1]? = some (showL (sumI (TL.joinL [32] ps.dropLast))) ∧ rbL (ps.drop 1).dropLast = some r)) → ∃ o, m_record_in [.int n, .str (S cs)] μ = some (optR o, μ) ∧ (∀ r, o = some r → r.Fit ∧ (4 ≤ ps.length ∧ ps[0]? = some (showL n) ∧ ps[ps.length - 1]? = some (showL (sumI (TL.joinL [32] ps.dropLast))) ∧ rbL (ps.drop 1).dropLast = some r)) ∧ (∀ r, (4 ≤ ps.length ∧ ps[0]? = some (showL n) ∧ ps[ps.length - 1]? = some (showL (sumI (TL.joinL [32] ps.dropLast))) ∧ rbL (ps.drop 1).dropLast = some r) → r.Good → o = some r) := fun h hno => by
    rw [e1] at h
    exact ⟨none, tr none _ h, fun r e => (by cases e), fun r e _ => absurd e (hno r)⟩
  by_cases h4 : ps.length < 4
  · refine nope ?_ fun r hr => absurd hr.1 (by omega)
    simp [ev_record_in, startD, l_sp, hsp, hlen, show (ps.length : Int) < 4 by omega]
  · have h4' : ¬ (ps.length : Int) < 4 := by omega
    match ps, hps, h4, hpne with
    | p0 :: pr, hps, h4, _ =>
      obtain ⟨L, eL⟩ : ∃ L : Int, L = ((p0 :: pr).length : Nat) := ⟨_, rfl⟩
      rw [← eL] at hlen h4'
      have ap0 := hasc p0 (List.mem_cons_self ..)
      have hix0 : dIx (.loc μ.length) (.int 0) μ1 = some (.str (S p0), μ1) := by rw [hix]; simp
      have q0 := v_eq_S (neg := true) (μ := μ1) (l := p0) (m := showL n) ap0 (asc_show n)
      by_cases h0 : p0 = showL n
      · have q0' : dEqv true (.str (S p0)) (.str (S (showL n))) μ1 = some false := by rw [q0, decide_eq_true h0]; rfl
        -- the slices
        have hsl1 := v_sl_loc (lo := none) (hi := some (-1)) hn1
        rw [cutD_last] at hsl1
        obtain ⟨hs, ehs⟩ : ∃ hs, hs = (p0 :: pr).dropLast := ⟨_, rfl⟩
        have hsl1b : dSl (.loc μ.length) none (some (-1)) μ1 = some (.loc μ1.length, μ1 ++ [.lst (hs.map fun l => .str (S l))]) := by
          rw [hsl1, ehs, List.map_dropLast]
        obtain ⟨μ2, e2⟩ : ∃ μ2, μ2 = μ1 ++ [MO.lst (hs.map fun l => .str (S l))] := ⟨_, rfl⟩
        rw [← e2] at hsl1b
        have hsub : List.Sublist hs (p0 :: pr) := by rw [ehs]; exact List.dropLast_sublist _
        have hths := tot_sub hsub
        have hj := v_join (μ := μ2) (n := μ1.length) (k := [32]) (ls := hs) (by rw [e2]; exact get_last) (by
          unfold Tot at hths ht
          simp only [List.length_cons, List.length_nil]
          omega)
        have hjt := join_tot hs
        have hsum := v_sum_of_signs (TL.joinL [32] hs) μ2 (by omega)
        have hn2 : μ2[μ.length]? = some (.lst ((p0 :: pr).map fun l => .str (S l))) := by
          rw [e2, List.getElem?_append_left (List.getElem?_eq_some_iff.mp hn1).1]
          exact hn1
        have hlast : ∃ pl, (p0 :: pr)[(p0 :: pr).length - 1]? = some pl := ⟨_, List.getElem?_eq_getElem (by simp)⟩
        obtain ⟨pl, hpl⟩ := hlast
        have apl := hasc pl (List.mem_of_getElem? hpl)
        have hixl : dIx (.loc μ.length) (.int (-1)) μ2 = some (.str (S pl), μ2) := by
          rw [v_ix_loc hn2, atI_m, List.length_map, List.getElem?_map, hpl]
          rfl
        have ql := v_eq_S (neg := false) (μ := μ2) (l := pl) (m := showL (sumI (TL.joinL [32] hs))) apl (asc_show _)
        by_cases h5 : pl = showL (sumI (TL.joinL [32] hs))
        · have ql' : dEqv false (.str (S pl)) (.str (S (showL (sumI (TL.joinL [32] hs))))) μ2 = some true := by rw [ql, decide_eq_true h5]; rfl
          have hsl2 := v_sl_loc (lo := some 1) (hi := some (-1)) hn2
          rw [cutD_mid _ (by simp)] at hsl2
          obtain ⟨ms, ems⟩ : ∃ ms, ms = ((p0 :: pr).drop 1).dropLast := ⟨_, rfl⟩
          have hsl2b : dSl (.loc μ.length) (some 1) (some (-1)) μ2 = some (.loc μ2.length, μ2 ++ [.lst (ms.map fun l => .str (S l))]) := by
            rw [hsl2, ems, ← List.map_drop, List.map_dropLast]
          obtain ⟨μ3, e3⟩ : ∃ μ3, μ3 = μ2 ++ [MO.lst (ms.map fun l => .str (S l))] := ⟨_, rfl⟩
          rw [← e3] at hsl2b
          have hsub2 : List.Sublist ms (p0 :: pr) := by
            rw [ems]
            exact (List.dropLast_sublist _).trans (List.drop_sublist _ _)
          have htms := tot_sub hsub2
          have hmsl : 2 ≤ ms.length := by
            rw [ems, List.length_dropLast, List.length_drop]
            omega
          obtain ⟨wd, rest, hmr⟩ : ∃ wd rest, ms = wd :: rest := by
            cases ms with
            | nil => simp at hmsl
            | cons a b => exact ⟨a, b, rfl⟩
          have hms_asc : ∀ l ∈ ms, Asc l := fun l hl => hasc l (hsub2.subset hl)
          obtain ⟨o, o1, o2, o3⟩ := v_record_by wd rest μ3 μ2.length (by rw [e3, hmr]; exact get_last) (hms_asc wd (by rw [hmr]; simp)) (fun l hl => hms_asc l (by rw [hmr]; exact List.mem_cons_of_mem _ hl))
            (by
              have : Tot rest ≤ Tot ms := tot_sub (by rw [hmr]; exact List.sublist_cons_self _ _)
              omega)
          have hrb : rbL ((p0 :: pr).drop 1).dropLast = rbW wd rest := by rw [← ems, hmr]; rfl
          refine ⟨o, tr o [MO.lst ((p0 :: pr).map fun l => .str (S l)), MO.lst (hs.map fun l => .str (S l)), MO.lst (ms.map fun l => .str (S l))] ?_, fun r e => ?_, fun r e g => ?_⟩
          · have e4 : μ ++ [MO.lst ((p0 :: pr).map fun l => .str (S l)), MO.lst (hs.map fun l => .str (S l)), MO.lst (ms.map fun l => .str (S l))] = μ3 := by rw [e3, e2, e1]; simp
            rw [e4]
            clear e4 e3 e2 e1
            simp [ev_record_in, startD, l_sp, hsp, hlen, h4', hix0, dStr_S hn, q0', hsl1b, hj, hsum, dStr_S (sumI_abs _), hixl, ql', hsl2b, o1]
          · obtain ⟨g1, g2⟩ := o2 r e
            exact ⟨g2, by omega, by rw [h0]; rfl, by rw [hpl, h5, ehs], by rw [hrb]; exact g1⟩
          · exact o3 r (by rw [← hrb]; exact e.2.2.2) g
        · have ql' : dEqv false (.str (S pl)) (.str (S (showL (sumI (TL.joinL [32] hs))))) μ2 = some false := by rw [ql, decide_eq_false h5]; rfl
          refine ⟨none, tr none [MO.lst ((p0 :: pr).map fun l => .str (S l)), MO.lst (hs.map fun l => .str (S l))] ?_, fun r e => (by cases e), fun r e g => ?_⟩
          · have e4 : μ ++ [MO.lst ((p0 :: pr).map fun l => .str (S l)), MO.lst (hs.map fun l => .str (S l))] = μ2 := by rw [e2, e1]; simp
            rw [e4]
            clear e4 e2 e1
            simp [ev_record_in, startD, l_sp, hsp, hlen, h4', hix0, dStr_S hn, q0', hsl1b, hj, hsum, dStr_S (sumI_abs _), hixl, ql', optR]
          · have := e.2.2.1
            rw [hpl, ← ehs] at this
            exact absurd (Option.some.inj this) h5
      · have q0' : dEqv true (.str (S p0)) (.str (S (showL n))) μ1 = some true := by rw [q0, decide_eq_false h0]; rfl
        refine nope ?_ fun r hr => ?_
        · simp [ev_record_in, startD, l_sp, hsp, hlen, h4', hix0, dStr_S hn, q0']
        · have := hr.2.1
          simp only [List.getElem?_cons_zero] at this
          exact absurd (Option.some.inj this) h0
/-! ### a line reads back -/
theorem w_free : ∀ (t : Tel) (c : Nat), c ∈ w t → c ≠ 32 ∧ c ≠ 10 ∧ c < 128
  | .int i, c, h => by
    simp only [w, List.mem_cons, List.mem_append, List.mem_nil_iff, or_false] at h
    rcases h with h | h | h
    · omega
    · rcases showL_signs h with h | h <;> omega
    · omega
  | .bl true, c, h => by simp [w] at h; omega
  | .bl false, c, h => by simp [w] at h; omega
  | .unit, c, h => by simp [w] at h; omega
  | .nil, c, h => by simp [w] at h; omega
  | .fn, c, h => by simp [w] at h; omega
  | .pair a b, c, h => by
    simp only [w, List.mem_cons, List.mem_append] at h
    rcases h with h | h | h
    · omega
    · exact w_free a c h
    · exact w_free b c h
  | .cons a b, c, h => by
    simp only [w, List.mem_cons, List.mem_append] at h
    rcases h with h | h | h
    · omega
    · exact w_free a c h
    · exact w_free b c h
theorem tg_free : ∀ x ∈ [tgL "program", tgL "inputs", tgL "set", tgL "told", tgL "kept"], ∀ c ∈ x, c ≠ 32 ∧ c ≠ 10 ∧ c < 128 := by decide +kernel
theorem show_free (i : Int) : ∀ c ∈ showL i, c ≠ 32 ∧ c ≠ 10 ∧ c < 128 := fun c h => by
  rcases showL_signs h with h | h <;> omega
theorem inp_signs : ∀ c ∈ smallL ++ greatL ++ figL, c ≠ 32 ∧ c ≠ 10 ∧ c < 128 := by decide +kernel
theorem inp_free {nm : List Nat} (h : isInp nm = true) : ∀ c ∈ nm, c ≠ 32 ∧ c ≠ 10 ∧ c < 128 := fun c hc => by
  unfold isInp hasS at h
  simp only [Bool.and_eq_true] at h
  exact inp_signs c (of_decide_eq_true (List.all_eq_true.mp h.2.2.2 c hc))
theorem okc_free {least : Int} {t : List Nat} (h : isT least t = true) : ∀ c ∈ t, c ≠ 92 ∧ c < 128 := fun c hc => by
  unfold isT at h
  simp only [Bool.and_eq_true] at h
  have := List.all_eq_true.mp h.2.2 c hc
  simp [okc] at this
  omega
theorem rp_back {t : List Nat} (h : ∀ c ∈ t, c ≠ 92) : rp 92 10 (rp 10 92 t) = t := by
  unfold rp
  rw [List.map_map]
  conv => rhs; rw [← List.map_id t]
  refine List.map_congr_left fun c hc => ?_
  have := h c hc
  simp only [Function.comp]
  by_cases h1 : c = 10
  · simp [h1]
  · simp [h1, this]
theorem parts_ne (r : Rec) : r.parts ≠ [] := by cases r <;> simp [Rec.parts]
theorem parts_no10 {r : Rec} (hg : r.Good) : ∀ l ∈ r.parts, ∀ c ∈ l, c ≠ 10 ∧ c < 128 := by
  intro l hl c hc
  cases r with
  | prog t =>
    simp only [Rec.parts, List.mem_cons, List.mem_nil_iff, or_false] at hl
    rcases hl with rfl | rfl
    · exact (tg_free _ (by simp) c hc).2
    · obtain ⟨x, hx, e⟩ := List.mem_map.mp hc
      have := okc_free hg x hx
      split at e <;> omega
  | inp t =>
    simp only [Rec.parts, List.mem_cons, List.mem_nil_iff, or_false] at hl
    rcases hl with rfl | rfl
    · exact (tg_free _ (by simp) c hc).2
    · obtain ⟨x, hx, e⟩ := List.mem_map.mp hc
      have := okc_free hg x hx
      split at e <;> omega
  | set nm a b =>
    simp only [Rec.parts, List.mem_cons, List.mem_nil_iff, or_false] at hl
    rcases hl with rfl | rfl | rfl | rfl
    · exact (tg_free _ (by simp) c hc).2
    · exact (inp_free hg.1 c hc).2
    · exact (w_free a c hc).2
    · exact (w_free b c hc).2
  | told t n =>
    simp only [Rec.parts, List.mem_cons, List.mem_nil_iff, or_false] at hl
    rcases hl with rfl | rfl | rfl
    · exact (tg_free _ (by simp) c hc).2
    · exact (w_free t c hc).2
    · exact (show_free n c hc).2
  | kept m n =>
    simp only [Rec.parts, List.mem_cons, List.mem_nil_iff, or_false] at hl
    rcases hl with rfl | rfl | rfl
    · exact (tg_free _ (by simp) c hc).2
    · exact (show_free m c hc).2
    · exact (show_free n c hc).2
theorem pb_w {t : Tel} (h : t.high ≤ 60) (ho : okB t = true) : pb (w t) = some t := by
  have := pt_w t 60 [] h ho
  rw [List.append_nil] at this
  unfold pb
  rw [this]
theorem okA_okB : ∀ {t : Tel}, okA t = true → okB t = true
  | .int _, h => h
  | .bl _, _ => rfl
  | .unit, _ => rfl
  | .nil, _ => rfl
  | .fn, h => by cases h
  | .pair a b, h => by
    simp only [okA, Bool.and_eq_true] at h
    simp only [okB, okA_okB h.1, okA_okB h.2, Bool.and_self]
  | .cons a b, h => by
    simp only [okA, Bool.and_eq_true] at h
    simp only [okB, okA_okB h.1, okA_okB h.2, Bool.and_self]
theorem rb_back {r : Rec} (hg : r.Good) : rbL (P (TL.joinL [32] r.parts)) = some r ∧ 2 ≤ (P (TL.joinL [32] r.parts)).length := by
  have hn : tgL "inputs" ≠ tgL "program" ∧ tgL "set" ≠ tgL "program" ∧ tgL "set" ≠ tgL "inputs" ∧ tgL "told" ≠ tgL "program" ∧ tgL "told" ≠ tgL "inputs" ∧ tgL "told" ≠ tgL "set" ∧ tgL "kept" ≠ tgL "program" ∧ tgL "kept" ≠ tgL "inputs" ∧ tgL "kept" ≠ tgL "set" ∧ tgL "kept" ≠ tgL "told" := by decide +kernel
  obtain ⟨n1, n2, n3, n4, n5, n6, n7, n8, n9, n10⟩ := hn
  cases r with
  | prog t =>
    have e : TL.joinL [32] (Rec.prog t).parts = tgL "program" ++ 32 :: rp 10 92 t := rfl
    rw [e, P_cons _ (fun h => (tg_free _ (by simp) 32 h).1 rfl)]
    refine ⟨?_, by have := List.length_pos_iff.mpr (P_ne (rp 10 92 t)); simp; omega⟩
    show rbW _ _ = _
    unfold rbW
    rw [if_pos rfl, P_join, rp_back fun c hc => (okc_free hg c hc).1]
  | inp t =>
    have e : TL.joinL [32] (Rec.inp t).parts = tgL "inputs" ++ 32 :: rp 10 92 t := rfl
    rw [e, P_cons _ (fun h => (tg_free _ (by simp) 32 h).1 rfl)]
    refine ⟨?_, by have := List.length_pos_iff.mpr (P_ne (rp 10 92 t)); simp; omega⟩
    show rbW _ _ = _
    unfold rbW
    rw [if_neg n1, if_pos rfl, P_join, rp_back fun c hc => (okc_free hg c hc).1]
  | set nm a b =>
    rw [P_of_join (parts_ne _) (by
      intro p hp
      simp only [Rec.parts, List.mem_cons, List.mem_nil_iff, or_false] at hp
      rcases hp with rfl | rfl | rfl | rfl
      · exact fun h => (tg_free _ (by simp) 32 h).1 rfl
      · exact fun h => (inp_free hg.1 32 h).1 rfl
      · exact fun h => (w_free a 32 h).1 rfl
      · exact fun h => (w_free b 32 h).1 rfl)]
    refine ⟨?_, by simp [Rec.parts]⟩
    show rbW _ _ = _
    unfold rbW
    rw [if_neg n2, if_neg n3, if_pos rfl]
    unfold rbSet
    obtain ⟨_, ⟨_, a2, a3⟩, ⟨_, b2, b3⟩⟩ := hg
    simp only [pb_w a2 (okA_okB a3), pb_w b2 (okA_okB b3)]
  | told t n =>
    rw [P_of_join (parts_ne _) (by
      intro p hp
      simp only [Rec.parts, List.mem_cons, List.mem_nil_iff, or_false] at hp
      rcases hp with rfl | rfl | rfl
      · exact fun h => (tg_free _ (by simp) 32 h).1 rfl
      · exact fun h => (w_free t 32 h).1 rfl
      · exact fun h => (show_free n 32 h).1 rfl)]
    refine ⟨?_, by simp [Rec.parts]⟩
    show rbW _ _ = _
    unfold rbW
    rw [if_neg n4, if_neg n5, if_neg n6, if_pos rfl]
    unfold rbTold
    obtain ⟨a1, a2, a3⟩ := hg
    simp only [pb_w a1 a2, pNum_show a3]
  | kept m n =>
    rw [P_of_join (parts_ne _) (by
      intro p hp
      simp only [Rec.parts, List.mem_cons, List.mem_nil_iff, or_false] at hp
      rcases hp with rfl | rfl | rfl
      · exact fun h => (tg_free _ (by simp) 32 h).1 rfl
      · exact fun h => (show_free m 32 h).1 rfl
      · exact fun h => (show_free n 32 h).1 rfl)]
    refine ⟨?_, by simp [Rec.parts]⟩
    show rbW _ _ = _
    unfold rbW
    rw [if_neg n7, if_neg n8, if_neg n9, if_neg n10, if_pos rfl]
    unfold rbKept
    simp only [pNum_show hg.1, pNum_show hg.2]
theorem head_cons (n : Int) (r : Rec) : head n r = showL n ++ 32 :: TL.joinL [32] r.parts := join_cons _ (parts_ne r)
theorem P_head (n : Int) (r : Rec) : P (head n r) = showL n :: P (TL.joinL [32] r.parts) := by
  rw [head_cons, P_cons _ (fun h => (show_free n 32 h).1 rfl)]
theorem P_line (n : Int) (r : Rec) : P (line0 n r) = P (head n r) ++ [showL (sumI (head n r))] := P_snoc _ fun h => (show_free _ 32 h).1 rfl
theorem acc_line {n : Int} {r : Rec} (hg : r.Good) : Acc n (line0 n r) r := by
  obtain ⟨h1, h2⟩ := rb_back hg
  have e1 := P_line n r
  have e2 := P_head n r
  unfold Acc
  rw [e1]
  refine ⟨?_, ?_, ?_, ?_⟩
  · rw [e2]; simp; omega
  · rw [e2]; rfl
  · rw [List.dropLast_concat, P_join]
    simp
  · rw [e2]
    simp only [List.cons_append, List.drop_succ_cons, List.drop_zero, List.dropLast_concat]
    exact h1
theorem line_no10 {n : Int} {r : Rec} (hg : r.Good) : ∀ c ∈ line0 n r, c ≠ 10 ∧ c < 128 := by
  intro c hc
  unfold line0 at hc
  rw [head_cons] at hc
  rcases List.mem_append.mp hc with hc | hc
  · rcases List.mem_append.mp hc with hc | hc
    · exact (show_free n c hc).2
    · rcases List.mem_cons.mp hc with rfl | hc
      · omega
      · have h : ∀ ls : List (List Nat), (∀ l ∈ ls, ∀ c ∈ l, c ≠ 10 ∧ c < 128) → ∀ c ∈ TL.joinL [32] ls, c ≠ 10 ∧ c < 128 := by
          intro ls
          induction ls with
          | nil => intro _ c hc; cases hc
          | cons x r ih =>
            intro h c hc
            cases r with
            | nil => exact h x (List.mem_cons_self ..) c hc
            | cons y r =>
              rw [join_cons x (by simp)] at hc
              rcases List.mem_append.mp hc with hc | hc
              · exact h x (List.mem_cons_self ..) c hc
              · rcases List.mem_cons.mp hc with rfl | hc
                · omega
                · exact ih (fun l hl => h l (List.mem_cons_of_mem _ hl)) c hc
        exact h r.parts (parts_no10 hg) c hc
  · rcases List.mem_cons.mp hc with rfl | hc
    · omega
    · exact (show_free _ c hc).2
end K73
set_option Elab.async false
set_option linter.all false
set_option maxRecDepth 100000
namespace K73
open PySem PySem.Spec PyProof.Rows L2 PDL SX Tel
/-! ### read_of -/
def pre (recs : List Rec) (j : Nat) : List Nat := ((linesL recs).take j).flatten
theorem linesL_at (recs : List Rec) (j : Nat) (r : Rec) (h : recs[j]? = some r) : (linesL recs)[j]? = some (line (j : Nat) r) := by
  unfold linesL
  rw [List.getElem?_mapIdx, h]
  rfl
theorem linesL_length (recs : List Rec) : (linesL recs).length = recs.length := by simp [linesL]
theorem pre_succ (recs : List Rec) (j : Nat) (r : Rec) (h : recs[j]? = some r) : pre recs (j + 1) = pre recs j ++ line (j : Nat) r := by
  unfold pre
  rw [List.take_add_one, linesL_at recs j r h]
  simp
theorem pre_all (recs : List Rec) : pre recs recs.length = (linesL recs).flatten := by
  unfold pre
  rw [List.take_of_length_le (by rw [linesL_length]; exact Nat.le_refl _)]
theorem pre_split (recs : List Rec) (j : Nat) (r : Rec) (h : recs[j]? = some r) : ∃ more, (linesL recs).flatten = pre recs j ++ (line0 (j : Nat) r ++ 10 :: more) := by
  refine ⟨((linesL recs).drop (j + 1)).flatten, ?_⟩
  have e : linesL recs = (linesL recs).take j ++ (line (j : Nat) r :: (linesL recs).drop (j + 1)) := by
    conv => lhs; rw [← List.take_append_drop j (linesL recs)]
    congr 1
    have hj : j < (linesL recs).length := by rw [linesL_length]; exact (List.getElem?_eq_some_iff.mp h).1
    rw [List.drop_eq_getElem_cons hj]
    congr 1
    have := linesL_at recs j r h
    rw [List.getElem?_eq_getElem hj] at this
    exact Option.some.inj this
  conv => lhs; rw [e]
  unfold pre
  simp [line]
noncomputable def m_read_of := runF N_read_of (ev_read_of m_record_in m_follows) 1
/-- the first line behind is refused -/
def Rej (recs : List Rec) (rest : List Nat) : Prop := ∀ p q r, rest = p ++ 10 :: q → 10 ∉ p → r.Fit → Acc (recs.length : Nat) p r → fol recs r = false
theorem app_inj10 {p p' q q' : List Nat} (h : p ++ 10 :: q = p' ++ 10 :: q') (h1 : 10 ∉ p) (h2 : 10 ∉ p') : p = p' ∧ q = q' := by
  have e1 := brk_app q h1
  have e2 := brk_app q' h2
  rw [h, e2] at e1
  cases e1
  exact ⟨rfl, rfl⟩
theorem v_read_of (recs : List Rec) (cs rest : List Nat) (μ0 : Store) (hcs : cs = (linesL recs).flatten ++ rest) (hg : ∀ r ∈ recs, r.Sm ∧ r.Good) (hseq : Seq recs) (ha : Asc cs) (hl : cs.length < 900000) :
    ∃ more at_, m_read_of [.str (S cs)] μ0 = some (.tup [.loc μ0.length, .int ((at_ : Nat) : Int)], μ0 ++ [.lst ((recs ++ more).map Rec.d)]) ∧ (∀ r ∈ more, r.Fit) ∧ (recs ++ more).length ≤ cs.length ∧ (Rej recs rest → more = [] ∧ at_ = (linesL recs).flatten.length) := by
  have hz : cs.length ≤ sizeLine := by rw [size_eq]; omega
  have hfit : ∀ r ∈ recs, r.Fit := fun r hr => (hg r hr).1.fit
  have hpl : (linesL recs).flatten.length ≤ cs.length := by rw [hcs, List.length_append]; omega
  -- body
  obtain ⟨B, hB⟩ : ∃ B : EvS, B = (evSeq (evAsg (evCall m_record_in (evCons (evCall dLen (evCons (evVar 1) evNil)) (evCons (evSl dSl (evVar 0) (evOSome (evVar 2)) (evOSome (evVar 3))) evNil))) (egName 4))
    (evSeq (evIfS (evOrT (evTCmp (dIsN false) (evVar 4) (evC .non)) (evNotT (evTest (evCall m_follows (evCons (evVar 1) (evCons (evVar 4) evNil))))))
    (evRet (evTup (evCons (evVar 1) (evCons (evVar 2) evNil))))
    evNx)
    (evSeq (evDrop (evMeth "list" dAppend (evVar 1) (evCons (evVar 4) evNil)))
    (evSeq (evAsg (evBin dAdd (evVar 3) (evC (.int 1))) (egName 2))
    (evAsg (evMeth "str" dFind (evVar 0) (evCons (evC (.str "\n")) (evCons (evVar 2) evNil))) (egName 3)))))) := ⟨_, rfl⟩
  have hfi : ∀ (a : Int) (μ : Store), dFind (.str (S cs)) [.str (S [10]), .int a] μ = some (.int (Txt.find3 (S cs) (S [10]) a), μ) := fun a μ => rfl
  obtain ⟨r, hr, hR⟩ := while_run (t := evTCmp dGe (evVar 3) (evC (.int 0))) (b := B) (ρ := [some (.str (S cs)), some (.loc μ0.length), some (.int 0), some (.int (Txt.find3 (S cs) (S [10]) 0)), none]) (μ := μ0 ++ [.lst []]) cs.length
    (fun m ρ μ => ∃ (rs : List Rec) (at_ : Nat) (x4 : Option D), ρ = [some (.str (S cs)), some (.loc μ0.length), some (.int ((at_ : Nat) : Int)), some (.int (Txt.find3 (S cs) (S [10]) ((at_ : Nat) : Int))), x4] ∧ μ = μ0 ++ [.lst (rs.map Rec.d)] ∧ at_ ≤ cs.length ∧ m = cs.length - at_ ∧ (∀ r ∈ rs, r.Fit) ∧ rs.length ≤ at_ ∧
      ((∃ j, j ≤ recs.length ∧ rs = recs.take j ∧ at_ = (pre recs j).length) ∨ (∃ more, rs = recs ++ more ∧ ¬ Rej recs rest)))
    (fun r => ∃ (rs : List Rec) (at_ : Nat) (x3 x4 : Option D), (r = (.nx, [some (.str (S cs)), some (.loc μ0.length), some (.int ((at_ : Nat) : Int)), x3, x4], μ0 ++ [.lst (rs.map Rec.d)]) ∨ r = (.rt (.tup [.loc μ0.length, .int ((at_ : Nat) : Int)]), [some (.str (S cs)), some (.loc μ0.length), some (.int ((at_ : Nat) : Int)), x3, x4], μ0 ++ [.lst (rs.map Rec.d)])) ∧
      (∃ more, rs = recs ++ more ∧ (∀ r ∈ more, r.Fit) ∧ (Rej recs rest → more = [] ∧ at_ = (linesL recs).flatten.length)) ∧ rs.length ≤ cs.length)
    (by omega) ⟨[], 0, none, rfl, rfl, Nat.zero_le _, rfl, fun r h => (by cases h), Nat.le_refl _, .inl ⟨0, Nat.zero_le _, rfl, rfl⟩⟩
    (by
      rintro m ρ μ ⟨rs, at_, x4, rfl, rfl, hat, rfl, hrf, hrl, hph⟩
      have hget : (μ0 ++ [MO.lst (rs.map Rec.d)])[μ0.length]? = some (.lst (rs.map Rec.d)) := get_last
      have hlen := v_len_loc hget
      rw [List.length_map] at hlen
      rcases find_from cs 10 at_ hat with ⟨f1, f2⟩ | ⟨p, q, f1, f2, f3⟩
      · refine ⟨false, μ0 ++ [.lst (rs.map Rec.d)], by simp [f1], fun _ => ?_, fun h => (by cases h)⟩
        refine ⟨rs, at_, _, _, .inl rfl, ?_, by omega⟩
        rcases hph with ⟨j, hj, rfl, hat2⟩ | ⟨more, rfl, hno⟩
        · have hje : j = recs.length := by
            rcases Nat.lt_or_ge j recs.length with hlt | hge
            · exfalso
              obtain ⟨mr, hm⟩ := pre_split recs j recs[j] (List.getElem?_eq_getElem hlt)
              apply f2
              rw [hcs, hm, List.append_assoc, hat2, List.drop_left']
              · simp
              · rfl
            · omega
          subst hje
          rw [List.take_of_length_le (Nat.le_refl _)] at hrf ⊢
          exact ⟨[], by simp, fun r h => (by cases h), fun _ => ⟨rfl, by rw [hat2, pre_all]⟩⟩
        · exact ⟨more, rfl, fun r h => hrf r (List.mem_append_right _ h), fun h => absurd h hno⟩
      · refine ⟨true, μ0 ++ [.lst (rs.map Rec.d)], by simp [f3]; omega, fun h => (by cases h), fun _ => ?_⟩
        have hdl := congrArg List.length f1
        simp only [List.length_drop, List.length_append, List.length_cons] at hdl
        have hap : Asc p := fun c hc => (ha.drop at_) c (by rw [f1]; exact List.mem_append_left _ hc)
        have h10 : (10 : Nat) ^ 20 = 100000000000000000000 := by decide
        obtain ⟨o, o1, o2, o3⟩ := v_record_in (rs.length : Nat) p (μ0 ++ [.lst (rs.map Rec.d)]) (by omega) hap (by omega)
        have hsl : dSl (.str (S cs)) (some ((at_ : Nat) : Int)) (some ((at_ + p.length : Nat) : Int)) (μ0 ++ [.lst (rs.map Rec.d)]) = some (.str (S p), μ0 ++ [.lst (rs.map Rec.d)]) := by
          rw [v_sl_ab hz, f1, show at_ + p.length - at_ = p.length by omega, List.take_left']
          rfl
        -- phase 1, inside: the record is the one that was written
        have inside : ∀ j r, recs[j]? = some r → rs = recs.take j → at_ = (pre recs j).length → o = some r ∧ fol rs r = true ∧ p = line0 (j : Nat) r := by
          intro j r hj hrs hat2
          have hjl : j < recs.length := (List.getElem?_eq_some_iff.mp hj).1
          obtain ⟨mr, hm⟩ := pre_split recs j r hj
          have e : cs.drop at_ = line0 (j : Nat) r ++ 10 :: (mr ++ rest) := by
            rw [hcs, hm, List.append_assoc, hat2, List.drop_left']
            · simp
            · rfl
          rw [f1] at e
          have hgr := hg r (List.mem_of_getElem? hj)
          obtain ⟨e1, e2⟩ := app_inj10 e f2 fun h => (line_no10 hgr.2 10 h).1 rfl
          have hrsl : rs.length = j := by rw [hrs, List.length_take]; omega
          refine ⟨o3 r ?_ hgr.2, ?_, e1⟩
          · rw [e1, hrsl]
            exact acc_line hgr.2
          · rw [hrs]
            exact hseq j r hj
        have stop : ((∃ j, j ≤ recs.length ∧ rs = recs.take j ∧ at_ = (pre recs j).length) ∨ (∃ more, rs = recs ++ more ∧ ¬ Rej recs rest)) → (∀ r, o = some r → fol rs r = false) → ∃ more, rs = recs ++ more ∧ (∀ r ∈ more, r.Fit) ∧ (Rej recs rest → more = [] ∧ at_ = (linesL recs).flatten.length) := by
          intro hph hno
          rcases hph with ⟨j, hj, rfl, hat2⟩ | ⟨more, rfl, hno2⟩
          · have hje : j = recs.length := by
              rcases Nat.lt_or_ge j recs.length with hlt | hge
              · exfalso
                obtain ⟨i1, i2, _⟩ := inside j recs[j] (List.getElem?_eq_getElem hlt) rfl hat2
                rw [hno _ i1] at i2
                cases i2
              · omega
            subst hje
            rw [List.take_of_length_le (Nat.le_refl _)] at hrf ⊢
            exact ⟨[], by simp, fun r h => (by cases h), fun _ => ⟨rfl, by rw [hat2, pre_all]⟩⟩
          · exact ⟨more, rfl, fun r h => hrf r (List.mem_append_right _ h), fun h => absurd h hno2⟩
        obtain ⟨F, hF⟩ : ∃ F : Int, F = ((at_ + p.length : Nat) : Int) := ⟨_, rfl⟩
        rw [← hF] at f3 hsl
        cases ho : o with
        | none =>
          rw [ho] at o1
          have o1b : m_record_in [.int (rs.length : Int), .str (S p)] (μ0 ++ [.lst (rs.map Rec.d)]) = some (.non, μ0 ++ [.lst (rs.map Rec.d)]) := o1
          refine ⟨.rt (.tup [.loc μ0.length, .int ((at_ : Nat) : Int)]), [some (.str (S cs)), some (.loc μ0.length), some (.int ((at_ : Nat) : Int)), some (.int F), some .non], μ0 ++ [.lst (rs.map Rec.d)], ?_, ?_⟩
          · rw [hB]
            simp [hlen, f3, hsl, o1b, sz2]
          · exact ⟨rs, at_, _, _, .inr rfl, stop hph (fun r e => by rw [ho] at e; cases e), by omega⟩
        | some r =>
          rw [ho] at o1
          have o1b : m_record_in [.int (rs.length : Int), .str (S p)] (μ0 ++ [.lst (rs.map Rec.d)]) = some (r.d, μ0 ++ [.lst (rs.map Rec.d)]) := o1
          obtain ⟨hrfit, hacc⟩ := o2 r ho
          have hfo := v_follows rs r (μ0 ++ [.lst (rs.map Rec.d)]) μ0.length hget hrf
          have hisn : dIsN false r.d .non (μ0 ++ [.lst (rs.map Rec.d)]) = some false := by cases r <;> rfl
          cases hfl : fol rs r with
          | false =>
            rw [hfl] at hfo
            refine ⟨.rt (.tup [.loc μ0.length, .int ((at_ : Nat) : Int)]), [some (.str (S cs)), some (.loc μ0.length), some (.int ((at_ : Nat) : Int)), some (.int F), some r.d], μ0 ++ [.lst (rs.map Rec.d)], ?_, ?_⟩
            · rw [hB]
              simp [hlen, f3, hsl, o1b, hisn, hfo, sz2]
            · exact ⟨rs, at_, _, _, .inr rfl, stop hph (fun r' e => by rw [ho] at e; cases e; exact hfl), by omega⟩
          | true =>
            rw [hfl] at hfo
            have happ := v_append (d := r.d) hget (by rw [List.length_map, size_eq]; omega)
            rw [set_last] at happ
            have hmap : rs.map Rec.d ++ [r.d] = (rs ++ [r]).map Rec.d := by simp
            rw [hmap] at happ
            have hF1 : F + 1 = ((at_ + p.length + 1 : Nat) : Int) := by rw [hF]; rfl
            refine ⟨.nx, [some (.str (S cs)), some (.loc μ0.length), some (.int ((at_ + p.length + 1 : Nat) : Int)), some (.int (Txt.find3 (S cs) (S [10]) ((at_ + p.length + 1 : Nat) : Int))), some r.d], μ0 ++ [.lst ((rs ++ [r]).map Rec.d)], ?_, cs.length - (at_ + p.length + 1), by omega, rs ++ [r], at_ + p.length + 1, some r.d, rfl, rfl, by omega, rfl, ?_, ?_, ?_⟩
            · rw [hB, ← hF1]
              have hty : isTy "list" (μ0 ++ [MO.lst (rs.map Rec.d)]) (.loc μ0.length) = true := isTy_loc hget
              simp only [s_evSeq, s_evAsg, s_evCall, s_evCons, s_evVar, s_evNil, s_evSl, s_evOSome, s_evIfS, s_evOrT, s_evTCmp, s_evC, s_evNotT, s_evTest, s_evNx, s_evDrop, s_evMeth, s_evBin, List.getElem?_cons_zero, List.getElem?_cons_succ, kVar_s, kCons_s, kCons2_s, kCall_s, hlen, kSl_s, kSl2_s, kSl3_s, kOSome_s, f3, hsl, o1b, kAsg_s, s_egName, kAsg2_s, kSeq_n, List.set_cons_succ, List.set_cons_zero, kTCmp_s, kTCmp2_s, hisn, kTl_s, kOrT_s, Bool.false_eq_true, if_false, hfo, kTest_s, kNotT_s, Bool.not_true, kIfS_s, kMe_s, hty, if_true, kMe2_s, happ, kDrop_s, kBin_s, kBin2_s, v_add_int, isTy_str, l_nl, hfi]
            · intro x hx
              rcases List.mem_append.mp hx with hx | hx
              · exact hrf x hx
              · rw [List.mem_singleton.mp hx]
                exact hrfit
            · rw [List.length_append, List.length_singleton]
              omega
            · rcases hph with ⟨j, hj, hrs, hat2⟩ | ⟨more, rfl, hno2⟩
              · rcases Nat.lt_or_ge j recs.length with hlt | hge
                · have hj2 : recs[j]? = some recs[j] := List.getElem?_eq_getElem hlt
                  obtain ⟨i1, i2, i3⟩ := inside j recs[j] hj2 hrs hat2
                  rw [ho] at i1
                  cases i1
                  refine .inl ⟨j + 1, hlt, ?_, ?_⟩
                  · rw [hrs, List.take_add_one, hj2]
                    rfl
                  · rw [pre_succ recs j _ hj2, hat2, i3]
                    simp [line]
                    omega
                · have hje : j = recs.length := by omega
                  subst hje
                  rw [List.take_of_length_le (Nat.le_refl _)] at hrs
                  subst hrs
                  refine .inr ⟨[r], rfl, fun hrej => ?_⟩
                  have e : cs.drop at_ = rest := by
                    rw [hcs, hat2, pre_all, List.drop_left']
                    rfl
                  rw [f1] at e
                  have := hrej p q r e.symm f2 hrfit hacc
                  rw [hfl] at this
                  cases this
              · exact .inr ⟨more ++ [r], by simp, hno2⟩)
  obtain ⟨rs, at_, x3, x4, hr2, ⟨more, rfl, hm1, hm2⟩, hlen⟩ := hR
  refine ⟨more, at_, ?_, hm1, hlen, hm2⟩
  unfold m_read_of
  have e1 : evPar 1 2 (evCons (evLst evNil) (evCons (evC (.int 0)) evNil)) [some (.str (S cs)), none, none, none, none] μ0 = some (.nx, [some (.str (S cs)), some (.loc μ0.length), some (.int 0), none, none], μ0 ++ [.lst []]) := by simp
  have e2 : evAsg (evMeth "str" dFind (evVar 0) (evCons (evC (.str "\n")) (evCons (evVar 2) evNil))) (egName 3) [some (.str (S cs)), some (.loc μ0.length), some (.int 0), none, none] (μ0 ++ [.lst []]) = some (.nx, [some (.str (S cs)), some (.loc μ0.length), some (.int 0), some (.int (Txt.find3 (S cs) (S [10]) 0)), none], μ0 ++ [.lst []]) := by simp [l_nl, hfi]
  have e3 : startD N_read_of [.str (S cs)] = [some (.str (S cs)), none, none, none, none] := rfl
  unfold ev_read_of
  rw [s_runF, if_pos (show [D.str (S cs)].length = 1 from rfl), e3, s_evSeq, e1, kSeq_n, s_evSeq, e2, kSeq_n, s_evSeq, ← hB, hr]
  rcases hr2 with rfl | rfl
  · simp [sz2]
  · simp
end K73
set_option Elab.async false
set_option linter.all false
set_option maxRecDepth 100000
namespace K73
open PySem PySem.Spec PyProof.Rows L2 PDL SX Tel
/-! ### the pot -/
def Pot (μ : Store) (n : Nat) : Prop := ∃ a b : Int, μ[n]? = some (.lst [.int a, .int b]) ∧ 0 ≤ a ∧ 0 ≤ b ∧ b < 2147483648
structure Sx (n : Nat) (μ μ' : Store) : Prop where
  pot : Pot μ' n
  len : μ.length ≤ μ'.length
  same : ∀ i, i < μ.length → i ≠ n → μ'[i]? = μ[i]?
theorem Sx.refl {n : Nat} {μ : Store} (h : Pot μ n) : Sx n μ μ := ⟨h, Nat.le_refl _, fun _ _ _ => rfl⟩
theorem Sx.trans {n : Nat} {a b c : Store} (h : Sx n a b) (k : Sx n b c) : Sx n a c := ⟨k.pot, Nat.le_trans h.len k.len, fun i hi hn => (k.same i (Nat.lt_of_lt_of_le hi h.len) hn).trans (h.same i hi hn)⟩
theorem Sx.push {n : Nat} {μ : Store} (h : Pot μ n) (ex : Store) : Sx n μ (μ ++ ex) := by
  obtain ⟨a, b, h1, h2⟩ := h
  have hl : n < μ.length := (List.getElem?_eq_some_iff.mp h1).1
  refine ⟨⟨a, b, by rw [List.getElem?_append_left hl]; exact h1, h2⟩, by simp, fun i hi _ => List.getElem?_append_left hi⟩
theorem Sx.set {n : Nat} {μ : Store} (h : Pot μ n) {m : Nat} (o : MO) (hm : m ≠ n) (hml : μ.length ≤ m ∨ True) : Pot (μ.set m o) n := by
  obtain ⟨a, b, h1, h2⟩ := h
  exact ⟨a, b, by rw [List.getElem?_set_ne hm]; exact h1, h2⟩
theorem Sx.setNew {n : Nat} {μ0 μ : Store} (h : Sx n μ0 μ) {m : Nat} (o : MO) (hm : m ≠ n) (hml : μ0.length ≤ m) : Sx n μ0 (μ.set m o) :=
  ⟨Sx.set h.pot o hm (.inr trivial), by rw [List.length_set]; exact h.len, fun i hi hn => by rw [List.getElem?_set_ne (by omega)]; exact h.same i hi hn⟩
theorem Pot.lt {μ : Store} {n : Nat} (h : Pot μ n) : n < μ.length := by
  obtain ⟨a, b, h1, _⟩ := h
  exact (List.getElem?_eq_some_iff.mp h1).1
theorem Sx.get {n i : Nat} {μ μ' : Store} {o : MO} (h : Sx n μ μ') (e : μ[i]? = some o) (hi : i ≠ n) : μ'[i]? = some o := by
  rw [h.same i (List.getElem?_eq_some_iff.mp e).1 hi]
  exact e
noncomputable def m__law_pot := runF N__law_pot ev__law_pot 2
theorem v_pot (ns : List Int) (μ : Store) : ∃ a b : Int, m__law_pot [.rl (ns.map .int), .int 0] μ = some (.loc μ.length, μ ++ [.lst [.int a, .int b]]) ∧ 0 ≤ a ∧ 0 ≤ b ∧ b < 2147483648 := by
  have hpow : ∀ μ : Store, dPow (.int 10) (.int 18) μ = some (.int (10 ^ 18), μ) := fun μ => v_pow_int ⟨by decide, by decide, by decide⟩
  have key : ∀ (c : Int), ∃ a b : Int, kRun (evRet (evLst (evCons (evCall dMax (evCons (evC (.int 0)) (evCons (evBin dSub (evVar 2) (evBin dPow (evC (.int 10)) (evC (.int 18)))) evNil))) (evCons (evBin dAdd (evBin dMod (evCall dInt (evCons (evBin dAdd (evBin dAdd (evBin dMul (evBin dMod (evCall dInt (evCons (evVar 2) evNil)) (evC (.int 2147483549))) (evC (.int 17957))) (evBin dMul (evC (.int 18191)) (evVar 1))) (evC (.int 907))) evNil)) (evC (.int 2147483563))) (evC (.int 1))) evNil)))
      [some (.rl (ns.map .int)), some (.int 0), some (.int c)] μ) = some (.loc μ.length, μ ++ [.lst [.int a, .int b]]) ∧ 0 ≤ a ∧ 0 ≤ b ∧ b < 2147483648 := by
    intro c
    have hmax : ∀ (x : Int) (μ : Store), dMax [.int 0, .int x] μ = some (.int (if x > 0 then x else 0), μ) := fun x μ => rfl
    have hint : ∀ (x : Int) (μ : Store), dInt [.int x] μ = some (.int x, μ) := fun x μ => rfl
    have hmod : ∀ (x : Int) (μ : Store), dMod (.int x) (.int 2147483549) μ = some (.int (x % 2147483549), μ) := fun x μ => v_mod_int (by decide)
    have hmod2 : ∀ (x : Int) (μ : Store), dMod (.int x) (.int 2147483563) μ = some (.int (x % 2147483563), μ) := fun x μ => v_mod_int (by decide)
    have hmul : ∀ (x : Int) (μ : Store), dMul (.int x) (.int 17957) μ = some (.int (x * 17957), μ) := fun x μ => v_mul_int (.inr ⟨by decide, by decide⟩)
    have hmul2 : ∀ (μ : Store), dMul (.int 18191) (.int 0) μ = some (.int 0, μ) := fun μ => v_mul_int (.inl ⟨by decide, by decide⟩)
    refine ⟨if c - 10 ^ 18 > 0 then c - 10 ^ 18 else 0, (c % 2147483549 * 17957 + 0 + 907) % 2147483563 + 1, ?_, ?_, ?_, ?_⟩
    · simp only [s_evRet, s_evLst, s_evCons, s_evCall, s_evC, s_evBin, s_evVar, s_evNil, kBin_s, kBin2_s, kCons_s, kCons2_s, kCall_s, List.getElem?_cons_zero, List.getElem?_cons_succ, kVar_s, hpow, v_sub_int, hmax, hint, hmod, hmul, hmul2, v_add_int, hmod2, kLst_s, List.length_cons, List.length_nil, show 0 + 1 + 1 ≤ sizeLine by decide, if_true, kRet_s, kRun_r]
    · split <;> omega
    · omega
    · omega
  unfold m__law_pot
  have e3 : startD N__law_pot [.rl (ns.map .int), .int 0] = [some (.rl (ns.map .int)), some (.int 0), none] := rfl
  have habs : ∀ (x : Int) (μ : Store), dAbs [.int x] μ = some (.int (if x < 0 then -x else x), μ) := fun x μ => rfl
  cases ns with
  | nil =>
    obtain ⟨a, b, h1, h2⟩ := key 21101
    refine ⟨a, b, ?_, h2⟩
    rw [← h1]
    have hmul : ∀ (μ : Store), dMul (.int 19709) (.int 0) μ = some (.int 0, μ) := fun μ => v_mul_int (.inl ⟨by decide, by decide⟩)
    unfold ev__law_pot
    rw [s_runF, if_pos (by rfl), e3, s_evSeq]
    congr 1
  | cons i r =>
    obtain ⟨a, b, h1, h2⟩ := key (if i < 0 then -i else i)
    refine ⟨a, b, ?_, h2⟩
    rw [← h1]
    unfold ev__law_pot
    rw [s_runF, if_pos (by rfl), e3, s_evSeq]
    congr 1
    have hlt : decide ((0 : Int) < ((D.int i :: List.map D.int r).length : Nat)) = true := by simp
    simp only [s_evAsg, s_evIf, s_evTCmp, s_evVar, s_evCall, s_evCons, s_evNil, List.getElem?_cons_zero, List.getElem?_cons_succ, kVar_s, kCons_s, kCons2_s, kCall_s, v_len_rl, kTCmp_s, kTCmp2_s, v_lt_int, kTl_s, kIf_s, hlt, if_true, s_evBin, kBin_s, kBin2_s, v_ix_rl, atI_z, List.map_cons, Option.map_some, habs, kAsg_s, s_egName, kAsg2_s, List.set_cons_succ, List.set_cons_zero, kSeq_n]
noncomputable def m__law_draw := runF N__law_draw ev__law_draw 2
theorem v_draw (μ : Store) (n : Nat) (size : Int) (hp : Pot μ n) (h0 : 0 < size) (h1 : size < 1073741824) : ∃ d μ', m__law_draw [.loc n, .int size] μ = some (.int d, μ') ∧ 0 ≤ d ∧ d < size ∧ Sx n μ μ' ∧ μ'.length = μ.length := by
  obtain ⟨a, b, hg, ha, hb, hb2⟩ := hp
  have hl : n < μ.length := (List.getElem?_eq_some_iff.mp hg).1
  have hix := fun i => v_ix_loc (i := i) hg
  have hset : ∀ (a' b' : Int), 0 ≤ a' → 0 ≤ b' → b' < 2147483648 → Sx n μ (μ.set n (.lst [.int a', .int b'])) := fun a' b' q1 q2 q3 =>
    ⟨⟨a', b', List.getElem?_set_self hl, q1, q2, q3⟩, by simp, fun i hi hn => List.getElem?_set_ne (Ne.symm hn)⟩
  unfold m__law_draw
  by_cases hpos : 0 < a
  · refine ⟨a % size, μ.set n (.lst [.int (a / size), .int b]), ?_, Int.emod_nonneg _ (by omega), Int.emod_lt_of_pos _ h0, hset _ _ (Int.ediv_nonneg ha (by omega)) hb hb2, by simp⟩
    have hdm : ∀ μ : Store, dDivmod [.int a, .int size] μ = some (.tup [.int (a / size), .int (a % size)], μ) := fun μ => by
      show (if CDiv a size then some (D.tup [.int (a / size), .int (a % size)], μ) else none) = _
      exact if_pos ⟨h0, h1⟩
    have hds : dSet (.loc n) (.int 0) (.int (a / size)) μ = some (μ.set n (.lst [.int (a / size), .int b])) := by
      show (match μ[n]? with
        | some (MO.lst xs) => (ixN xs.length 0).map fun j => μ.set n (MO.lst (xs.set j (.int (a / size))))
        | _ => none) = _
      rw [hg]
      rfl
    simp [ev__law_draw, startD, hix, hpos, hdm, hds]
  · have hint : ∀ (x : Int) (μ : Store), dInt [.int x] μ = some (.int x, μ) := fun x μ => rfl
    have hmul : ∀ (μ : Store), dMul (.int b) (.int 40692) μ = some (.int (b * 40692), μ) := fun μ => v_mul_int (.inr ⟨by decide, by decide⟩)
    have hmod : ∀ (x : Int) (μ : Store), dMod (.int x) (.int 2147483399) μ = some (.int (x % 2147483399), μ) := fun x μ => v_mod_int (by decide)
    have hmod2 : ∀ (x : Int) (μ : Store), dMod (.int x) (.int 2147483323) μ = some (.int (x % 2147483323), μ) := fun x μ => v_mod_int (by decide)
    have hmod3 : ∀ (x : Int) (μ : Store), dMod (.int x) (.int size) μ = some (.int (x % size), μ) := fun x μ => v_mod_int h0
    have hfd : ∀ (x : Int) (μ : Store), dFdiv (.int x) (.int 19) μ = some (.int (x / 19), μ) := fun x μ => v_fdiv_int ⟨by decide, by decide⟩
    obtain ⟨c, hc⟩ : ∃ c : Int, c = (b * 40692 + 18191) % 2147483399 := ⟨_, rfl⟩
    have hc0 : 0 ≤ c ∧ c < 2147483648 := by omega
    have hc64 : -(2 ^ 64) < c ∧ c < 2 ^ 64 := by
      have : (2 : Int) ^ 64 = 18446744073709551616 := by decide
      omega
    have hmul2 : ∀ (μ : Store), dMul (.int c) (.int c) μ = some (.int (c * c), μ) := fun μ => v_mul_int (.inr hc64)
    have hds : dSet (.loc n) (.int 1) (.int c) μ = some (μ.set n (.lst [.int a, .int c])) := by
      show (match μ[n]? with
        | some (MO.lst xs) => (ixN xs.length 1).map fun j => μ.set n (MO.lst (xs.set j (.int c)))
        | _ => none) = _
      rw [hg]
      rfl
    have hix2 := fun i => v_ix_loc (i := i) (μ := μ.set n (.lst [.int a, .int c])) (n := n) (xs := [.int a, .int c]) (List.getElem?_set_self hl)
    refine ⟨(c * c) % 2147483323 / 19 % size, μ.set n (.lst [.int a, .int c]), ?_, Int.emod_nonneg _ (by omega), Int.emod_lt_of_pos _ h0, hset _ _ ha hc0.1 hc0.2, by simp⟩
    simp [ev__law_draw, startD, hix, hpos, hint, hmul, hmod]
    rw [← hc]
    simp [hds, hix2, hmul2, hint, hmod2, hfd, hmod3]
noncomputable def m__law_pick := runF N__law_pick (ev__law_pick m__law_draw) 2
theorem v_pick (μ : Store) (n m : Nat) (xs : List D) (hp : Pot μ n) (hm : μ[m]? = some (.lst xs)) (hmn : m ≠ n) (hne : xs ≠ []) (hl : xs.length < 1073741824) : ∃ x μ', m__law_pick [.loc n, .loc m] μ = some (x, μ') ∧ x ∈ xs ∧ Sx n μ μ' ∧ μ'.length = μ.length := by
  have hpos : 0 < xs.length := List.length_pos_iff.mpr hne
  obtain ⟨d, μ', h1, h2, h3, h4, h5⟩ := v_draw μ n (xs.length : Nat) hp (by omega) (by omega)
  have hix := fun i => v_ix_loc (i := i) (h4.get hm hmn)
  obtain ⟨k, rfl⟩ := Int.eq_ofNat_of_zero_le h2
  have hk : k < xs.length := by omega
  refine ⟨xs[k], μ', ?_, List.getElem_mem hk, h4, h5⟩
  unfold m__law_pick
  simp [ev__law_pick, startD, v_len_loc hm, h1, hix, PDL.atI_nat, hk]
/-! ### texts -/
def words8 : List (List Nat) := ["do 1", " ", "\n", "x", "~", "A", "  ", "[]"].map tgL
theorem words8_ok : ∀ l ∈ words8, l.length ≤ 4 ∧ 1 ≤ l.length ∧ l.all okc = true := by decide +kernel
noncomputable def m__law_text := runF N__law_text (ev__law_text m__law_draw m__law_pick) 1
theorem flat_ok : ∀ ls : List (List Nat), (∀ l ∈ ls, l ∈ words8) → ls.flatten.all okc = true ∧ ls.flatten.length ≤ 4 * ls.length ∧ ls.length ≤ ls.flatten.length
  | [], _ => ⟨rfl, Nat.le_refl _, Nat.le_refl _⟩
  | x :: r, h => by
    obtain ⟨h1, h2, h3⟩ := flat_ok r fun l hl => h l (List.mem_cons_of_mem _ hl)
    obtain ⟨g1, g2, g3⟩ := words8_ok x (h x (List.mem_cons_self ..))
    rw [List.flatten_cons, List.all_append, h1, g3, List.length_append, List.length_cons]
    exact ⟨rfl, by omega, by omega⟩
theorem sum_le : ∀ ls : List (List Nat), (∀ l ∈ ls, l ∈ words8) → (ls.map List.length).sum ≤ 4 * ls.length
  | [], _ => Nat.le_refl _
  | x :: r, h => by
    have h1 := sum_le r fun l hl => h l (List.mem_cons_of_mem _ hl)
    obtain ⟨g1, g2, g3⟩ := words8_ok x (h x (List.mem_cons_self ..))
    rw [List.map_cons, List.sum_cons, List.length_cons]
    omega
def TOk (t : List Nat) : Prop := isT 1 t = true ∧ t.length ≤ 36
theorem v_text (μ : Store) (n : Nat) (hp : Pot μ n) : ∃ t μ', m__law_text [.loc n] μ = some (.str (S t), μ') ∧ TOk t ∧ Sx n μ μ' := by
  obtain ⟨d, μ1, h1, h2, h3, h4, h5⟩ := v_draw μ n 9 hp (by decide) (by decide)
  have hpt := h4.pot.lt
  obtain ⟨k, rfl⟩ := Int.eq_ofNat_of_zero_le h2
  have s8 : (8 : Nat) ≤ sizeLine := by decide
  obtain ⟨acc, μ2, c1, ls, c2, c3, c4, c5, c6⟩ := comp_gen (rd := rdRange (1 + k)) (g := egC1 1) (t := evYes) (e := evCall m__law_pick (evCons (evVar 0) (evCons (evLst (evCons (evC (.str "do 1")) (evCons (evC (.str " ")) (evCons (evC (.str "\n")) (evCons (evC (.str "x")) (evCons (evC (.str "~")) (evCons (evC (.str "A")) (evCons (evC (.str "  ")) (evCons (evC (.str "[]")) evNil))))))))) evNil))) (n := μ1.length) (ρ := [some (.loc n), none]) (1 + k)
    (fun i acc μ => ∃ ls : List (List Nat), acc = ls.map (fun l => .str (S l)) ∧ (∀ l ∈ ls, l ∈ words8) ∧ ls.length = i ∧ i ≤ 1 + k ∧ μ[μ1.length]? = some (.lst acc) ∧ Sx n μ1 μ)
    (fun acc μ => ∃ ls : List (List Nat), acc = ls.map (fun l => .str (S l)) ∧ (∀ l ∈ ls, l ∈ words8) ∧ ls.length = 1 + k ∧ μ[μ1.length]? = some (.lst acc) ∧ Sx n μ1 μ)
    (by
      rintro i acc μ ⟨ls, rfl, hw, rfl, hi, hg, hs⟩
      refine ⟨hi, ?_⟩
      by_cases he : ls.length = 1 + k
      · exact .inl ⟨by unfold rdRange; rw [if_neg (by omega)], ls, rfl, hw, he, hg, hs⟩
      · have hlt : ls.length < 1 + k := by omega
        have hp3 : Pot (μ ++ [MO.lst (words8.map fun l => .str (S l))]) n := (Sx.push hs.pot _).pot
        obtain ⟨x, μ3, p1, p2, p3, p4⟩ := v_pick (μ ++ [MO.lst (words8.map fun l => .str (S l))]) n μ.length (words8.map fun l => .str (S l)) hp3 get_last (by have := hs.pot.lt; omega) (by simp [words8]) (by rw [List.length_map]; decide)
        obtain ⟨l, hl1, rfl⟩ := List.mem_map.mp p2
        have hcl : μ1.length < μ.length := (List.getElem?_eq_some_iff.mp hg).1
        have hs3 := hs.trans ((Sx.push hs.pot [MO.lst (words8.map fun l => .str (S l))]).trans p3)
        have hg3 : μ3[μ1.length]? = some (.lst (ls.map fun l => .str (S l))) := by
          refine p3.get ?_ (by omega)
          rw [List.getElem?_append_left hcl]
          exact hg
        refine .inr ⟨hlt, .int (ls.length : Nat), _, true, μ, by unfold rdRange; rw [if_pos hlt], rfl, rfl, fun h => (by cases h), fun _ => ⟨.str (S l), μ3, ?_, hg3, by rw [List.length_map, size_eq]; omega, ls ++ [l], by simp, ?_, by simp, by omega, ?_, ?_⟩⟩
        · simp [s8]
          have e : [D.str (Str.ofString "do 1"), D.str (Str.ofString " "), D.str (Str.ofString "\n"), D.str (Str.ofString "x"), D.str (Str.ofString "~"), D.str (Str.ofString "A"), D.str (Str.ofString "  "), D.str (Str.ofString "[]")] = words8.map fun l => .str (S l) := by simp [words8, ← tgS]
          rw [e]
          exact p1
        · intro z hz
          rcases List.mem_append.mp hz with hz | hz
          · exact hw z hz
          · rw [List.mem_singleton.mp hz]
            exact hl1
        · rw [List.getElem?_set_self (List.getElem?_eq_some_iff.mp hg3).1]
        · exact hs3.setNew _ (by omega) (Nat.le_refl _))
    FUEL 0 [] (μ1 ++ [.lst []]) (by rw [fuel_eq]; omega) ⟨[], rfl, by simp, rfl, Nat.zero_le _, get_last, Sx.push h4.pot _⟩
  subst c2
  have hj := v_join (μ := μ2) (n := μ1.length) (k := []) (ls := ls) c5 (by
    have := sum_le ls c3
    simp only [List.length_nil]
    omega)
  rw [joinL_nil] at hj
  obtain ⟨f1, f2, f3⟩ := flat_ok ls c3
  refine ⟨ls.flatten, μ2, ?_, ⟨?_, by omega⟩, h4.trans c6⟩
  · unfold m__law_text
    have hr : -(2 ^ 62) ≤ (1 : Int) + (k : Int) ∧ (1 : Int) + (k : Int) < 2 ^ 62 := by
      have : (2 : Int) ^ 62 = 4611686018427387904 := by decide
      omega
    have hto : ((1 : Int) + (k : Int)).toNat = 1 + k := by omega
    have e3 : startD N__law_text [.loc n] = [some (.loc n), none] := rfl
    unfold ev__law_text
    rw [s_runF, if_pos (show [D.loc n].length = 1 from rfl), e3, s_evRet, s_evMeth, s_evC, kMe_s, isTy_str, if_pos rfl, s_evCons, s_evComp]
    have e4 : eiRange (evCons (evBin dAdd (evC (.int 1)) (evCall m__law_draw (evCons (evVar 0) (evCons (evC (.int 9)) evNil)))) evNil) [some (.loc n), none] μ = some (rdRange (1 + k), μ1) := by
      simp [h1, hto]
      exact hr
    rw [e4]
    simp only [s_wipe1, s_wipe0, List.set_cons_succ, List.set_cons_zero, kComp_s, c1, Option.map_some, kCons_s, s_evNil, kCons2_s, kMe2_s, l_em, hj, kRet_s, kRun_r]
  · unfold isT
    rw [f1, decide_eq_true (show (1 : Int) ≤ (ls.flatten.length : Nat) by omega), decide_eq_true (show ls.flatten.length ≤ 20000 by omega)]
    rfl
end K73
set_option Elab.async false
set_option linter.all false
set_option maxRecDepth 100000
namespace K73
open PySem PySem.Spec PyProof.Rows L2 PDL SX Tel
/-! ### data -/
noncomputable def m__law_data : Nat → List D → Store → Option (D × Store)
  | 0 => fun _ _ => none
  | j + 1 => runF N__law_data (ev__law_data m__law_draw m__law_pick (m__law_data j)) 2
noncomputable def ev_leaf : Ev := evCall m__law_pick (evCons (evVar 0) (evCons (evLst (evCons (evTup (evCons (evC (.str "int")) (evCons (evBin dSub (evCall m__law_draw (evCons (evVar 0) (evCons (evC (.int 2000)) evNil))) (evC (.int 1000))) evNil))) (evCons (evTup (evCons (evC (.str "bool")) (evCons (evC (.bl true)) evNil))) (evCons (evTup (evCons (evC (.str "unit")) evNil)) (evCons (evTup (evCons (evC (.str "nil")) evNil)) (evCons (evTup (evCons (evC (.str "int")) (evCons (evBin dSub (evBin dPow (evC (.int 2)) (evC (.int 31))) (evC (.int 1))) evNil))) evNil)))))) evNil))
theorem v_leaf (μ : Store) (n : Nat) (x1 x2 : Option D) (hp : Pot μ n) : ∃ t μ', ev_leaf [some (.loc n), x1, x2] μ = some (t.d, μ') ∧ okA t = true ∧ t.high = 1 ∧ t.size = 1 ∧ Sx n μ μ' := by
  obtain ⟨d, μ1, h1, h2, h3, h4, h5⟩ := v_draw μ n 2000 hp (by decide) (by decide)
  have hpow : ∀ μ : Store, dPow (.int 2) (.int 31) μ = some (.int (2 ^ 31), μ) := fun μ => v_pow_int ⟨by decide, by decide, by decide⟩
  have hpt := h4.pot.lt
  have hp2 := (Sx.push h4.pot [MO.lst [(Tel.int (d - 1000)).d, (Tel.bl true).d, Tel.unit.d, Tel.nil.d, (Tel.int (2 ^ 31 - 1)).d]])
  obtain ⟨x, μ2, p1, p2, p3, p4⟩ := v_pick _ n μ1.length [(Tel.int (d - 1000)).d, (Tel.bl true).d, Tel.unit.d, Tel.nil.d, (Tel.int (2 ^ 31 - 1)).d] hp2.pot get_last (by omega) (by simp) (by simp)
  have key : ∃ t : Tel, x = t.d ∧ okA t = true ∧ t.high = 1 ∧ t.size = 1 := by
    simp only [List.mem_cons, List.mem_nil_iff, or_false] at p2
    rcases p2 with rfl | rfl | rfl | rfl | rfl
    · refine ⟨_, rfl, ?_, rfl, rfl⟩
      show isI (d - 1000) = true
      unfold isI
      rw [decide_eq_true (by omega), decide_eq_true (by omega)]
      rfl
    · exact ⟨_, rfl, rfl, rfl, rfl⟩
    · exact ⟨_, rfl, rfl, rfl, rfl⟩
    · exact ⟨_, rfl, rfl, rfl, rfl⟩
    · exact ⟨_, rfl, by decide, rfl, rfl⟩
  obtain ⟨t, rfl, g1, g2, g3⟩ := key
  refine ⟨t, μ2, ?_, g1, g2, g3, h4.trans (hp2.trans p3)⟩
  have s5 : (5 : Nat) ≤ sizeLine := by decide
  simp only [Tel.d] at p1
  simp [ev_leaf, h1, hpow, sz1, sz2, s5]
  simp at p1
  exact p1
theorem v_data : ∀ (k j : Nat) (μ : Store) (n : Nat), k < j → k ≤ 5 → Pot μ n → ∃ t μ', m__law_data j [.loc n, .int k] μ = some (t.d, μ') ∧ okA t = true ∧ t.high ≤ k + 1 ∧ t.size ≤ 2 ^ (k + 1) - 1 ∧ Sx n μ μ'
  | k, 0, _, _, h, _, _ => absurd h (Nat.not_lt_zero _)
  | 0, j + 1, μ, n, _, _, hp => by
    obtain ⟨d, μ1, h1, h2, h3, h4, h5⟩ := v_draw μ n 8 hp (by decide) (by decide)
    obtain ⟨t, μ2, l1, l2, l3, l4, l5⟩ := v_leaf μ1 n (some (.int 0)) (some (.int d)) h4.pot
    refine ⟨t, μ2, ?_, l2, by omega, by omega, h4.trans l5⟩
    show runF N__law_data (ev__law_data m__law_draw m__law_pick (m__law_data j)) 2 [.loc n, .int ((0 : Nat) : Int)] μ = _
    unfold ev_leaf at l1
    simp only [s_evCall] at l1
    simp only [s_runF, ev__law_data, startD, List.length_cons, List.length_nil, List.map_cons, List.map_nil]
    simp [h1]
    simp at l1
    simp [l1]
  | k + 1, j + 1, μ, n, hk, hk5, hp => by
    obtain ⟨d, μ1, h1, h2, h3, h4, h5⟩ := v_draw μ n 8 hp (by decide) (by decide)
    have hk0 : ¬ (k : Int) + 1 = 0 := by omega
    by_cases hd : d < 5
    · obtain ⟨t, μ2, l1, l2, l3, l4, l5⟩ := v_leaf μ1 n (some (.int ((k : Int) + 1))) (some (.int d)) h4.pot
      have h2k : 1 ≤ 2 ^ (k + 1 + 1) - 1 := by
        have : 2 ^ 1 ≤ 2 ^ (k + 1 + 1) := Nat.pow_le_pow_right (by decide) (by omega)
        omega
      refine ⟨t, μ2, ?_, l2, by omega, by omega, h4.trans l5⟩
      show runF N__law_data (ev__law_data m__law_draw m__law_pick (m__law_data j)) 2 [.loc n, .int ((k : Int) + 1)] μ = _
      unfold ev_leaf at l1
      simp only [s_evCall] at l1
      simp only [s_runF, ev__law_data, startD, List.length_cons, List.length_nil, List.map_cons, List.map_nil]
      simp [h1, hk0, hd]
      simp at l1
      simp [l1]
    · obtain ⟨a, μ2, a1, a2, a3, a4, a5⟩ := v_data k j μ1 n (by omega) (by omega) h4.pot
      obtain ⟨b, μ3, b1, b2, b3, b4, b5⟩ := v_data k j μ2 n (by omega) (by omega) a5.pot
      have hkk : (k : Int) + 1 - 1 = k := by omega
      have hpw : 2 ^ (k + 1 + 1) = 2 * 2 ^ (k + 1) := by rw [Nat.pow_succ]; omega
      have hpp : 1 ≤ 2 ^ (k + 1) := Nat.one_le_two_pow
      by_cases h7 : d < 7
      · refine ⟨.pair a b, μ3, ?_, by simp [okA, a2, b2], by simp [high]; omega, by simp only [size]; omega, h4.trans (a5.trans b5)⟩
        show runF N__law_data (ev__law_data m__law_draw m__law_pick (m__law_data j)) 2 [.loc n, .int ((k : Int) + 1)] μ = _
        simp [ev__law_data, startD, h1, hk0, hd, h7, hkk, a1, b1, sz3, Tel.d]
      · refine ⟨.cons a b, μ3, ?_, by simp [okA, a2, b2], by simp [high]; omega, by simp only [size]; omega, h4.trans (a5.trans b5)⟩
        show runF N__law_data (ev__law_data m__law_draw m__law_pick (m__law_data j)) 2 [.loc n, .int ((k : Int) + 1)] μ = _
        simp [ev__law_data, startD, h1, hk0, hd, h7, hkk, a1, b1, sz3, Tel.d]
/-! ### records -/
def ROk (r : Rec) : Prop := r.Sm ∧ r.Good
theorem tok_prog {t : List Nat} (h : TOk t) : ROk (.prog t) := ⟨⟨by have := h.2; omega, fun c hc => (okc_free h.1 c hc).2⟩, h.1⟩
theorem tok_inp {t : List Nat} (h : TOk t) : ROk (.inp t) := by
  refine ⟨⟨by have := h.2; omega, fun c hc => (okc_free h.1 c hc).2⟩, ?_⟩
  have h1 := h.1
  show isT 0 t = true
  unfold isT at h1 ⊢
  simp only [Bool.and_eq_true, decide_eq_true_eq] at h1 ⊢
  exact ⟨by omega, h1.2⟩
theorem told_ok {t : Tel} {n : Int} (h1 : okA t = true) (h2 : t.high ≤ 4) (h3 : t.size ≤ 15) (h4 : 0 ≤ n) (h5 : n < 1000000000000) : ROk (.told t n) := by
  have hn : isN n = true := by unfold isN; rw [decide_eq_true h4, decide_eq_true h5]; rfl
  exact ⟨⟨⟨okA_okB h1, by omega, by omega⟩, isN_abs hn⟩, by show t.high ≤ 60; omega, okA_okB h1, hn⟩
theorem set_ok {nm : List Nat} {a b : Tel} (h0 : isInp nm = true ∧ nm.length ≤ 12) (h1 : okA a = true) (h2 : a.high ≤ 4) (h3 : a.size ≤ 15) (h4 : okA b = true) (h5 : b.high ≤ 4) (h6 : b.size ≤ 15) : ROk (.set nm a b) :=
  ⟨⟨by have := h0.2; omega, fun c hc => (inp_free h0.1 c hc).2.2, ⟨okA_okB h1, by omega, by omega⟩, ⟨okA_okB h4, by omega, by omega⟩⟩, h0.1, ⟨by omega, by omega, h1⟩, ⟨by omega, by omega, h4⟩⟩
theorem kept_ok {m n : Int} (h1 : 0 ≤ m) (h2 : m < 1000000000000) (h3 : 0 ≤ n) (h4 : n < 1000000000000) : ROk (.kept m n) := by
  have hm : isN m = true := by unfold isN; rw [decide_eq_true h1, decide_eq_true h2]; rfl
  have hn : isN n = true := by unfold isN; rw [decide_eq_true h3, decide_eq_true h4]; rfl
  exact ⟨⟨isN_abs hm, isN_abs hn⟩, hm, hn⟩
theorem seq_snoc {xs : List Rec} {r : Rec} (h : Seq xs) (hf : fol xs r = true) : Seq (xs ++ [r]) := by
  intro i x hx
  by_cases hi : i < xs.length
  · rw [List.getElem?_append_left hi] at hx
    rw [List.take_append_of_le_length (by omega)]
    exact h i x hx
  · have hi2 : i = xs.length := by
      have := (List.getElem?_eq_some_iff.mp hx).1
      simp at this
      omega
    subst hi2
    rw [List.getElem?_append_right (Nat.le_refl _), Nat.sub_self] at hx
    cases hx
    rw [List.take_left']
    · exact hf
    · rfl
noncomputable def m__law_records := runF N__law_records (ev__law_records m__law_text (m__law_data 4) m__law_draw m__law_pick) 2
noncomputable def ev_told : Ev := evTup (evCons (evC (.str "told")) (evCons (evCall (m__law_data 4) (evCons (evVar 0) (evCons (evC (.int 3)) evNil))) (evCons (evCall m__law_draw (evCons (evVar 0) (evCons (evC (.int 90)) evNil))) evNil)))
theorem v_told (ρ : PDL.Env) (μ : Store) (n : Nat) (h0 : ρ[0]? = some (some (.loc n))) (hp : Pot μ n) : ∃ r μ', ev_told ρ μ = some (r.d, μ') ∧ r.tag = "told" ∧ ROk r ∧ Sx n μ μ' := by
  obtain ⟨t, μ1, a1, a2, a3, a4, a5⟩ := v_data 3 4 μ n (by decide) (by decide) hp
  obtain ⟨d, μ2, b1, b2, b3, b4, b5⟩ := v_draw μ1 n 90 a5.pot (by decide) (by decide)
  have a1b : m__law_data 4 [.loc n, .int 3] μ = some (t.d, μ1) := a1
  have e15 : 2 ^ (3 + 1) - 1 = 15 := by decide
  refine ⟨.told t d, μ2, ?_, rfl, told_ok a2 a3 (by omega) b2 (by omega), a5.trans b4⟩
  simp [ev_told, h0, a1b, b1, sz3, Rec.d]
noncomputable def ev_setr : Ev := evTup (evCons (evC (.str "set")) (evCons (evCall m__law_pick (evCons (evVar 0) (evCons (evLst (evCons (evC (.str "A")) (evCons (evC (.str "Cell2")) (evCons (evC (.str "ZzZzZzZzZzZz")) evNil)))) evNil))) (evCons (evCall (m__law_data 4) (evCons (evVar 0) (evCons (evC (.int 2)) evNil))) (evCons (evCall (m__law_data 4) (evCons (evVar 0) (evCons (evC (.int 3)) evNil))) evNil))))
def names3 : List (List Nat) := ["A", "Cell2", "ZzZzZzZzZzZz"].map tgL
theorem names3_ok : ∀ l ∈ names3, isInp l = true ∧ l.length ≤ 12 := by decide +kernel
theorem v_setr (ρ : PDL.Env) (μ : Store) (n : Nat) (h0 : ρ[0]? = some (some (.loc n))) (hp : Pot μ n) : ∃ r μ', ev_setr ρ μ = some (r.d, μ') ∧ r.tag = "set" ∧ ROk r ∧ Sx n μ μ' := by
  have hpt := hp.lt
  have hp2 := Sx.push hp [MO.lst (names3.map fun l => .str (S l))]
  obtain ⟨x, μ1, p1, p2, p3, p4⟩ := v_pick _ n μ.length (names3.map fun l => .str (S l)) hp2.pot get_last (by omega) (by simp [names3]) (by rw [List.length_map]; decide)
  obtain ⟨nm, hnm, rfl⟩ := List.mem_map.mp p2
  obtain ⟨a, μ2, a1, a2, a3, a4, a5⟩ := v_data 2 4 μ1 n (by decide) (by decide) p3.pot
  obtain ⟨b, μ3, b1, b2, b3, b4, b5⟩ := v_data 3 4 μ2 n (by decide) (by decide) a5.pot
  have a1b : m__law_data 4 [.loc n, .int 2] μ1 = some (a.d, μ2) := a1
  have b1b : m__law_data 4 [.loc n, .int 3] μ2 = some (b.d, μ3) := b1
  have e2 : 2 ^ (2 + 1) - 1 = 7 := by decide
  have e3 : 2 ^ (3 + 1) - 1 = 15 := by decide
  refine ⟨.set nm a b, μ3, ?_, rfl, set_ok (names3_ok nm hnm) a2 (by omega) (by omega) b2 (by omega) (by omega), hp2.trans (p3.trans (a5.trans b5))⟩
  have s4 : (4 : Nat) ≤ sizeLine := by decide
  have e : [D.str (Str.ofString "A"), D.str (Str.ofString "Cell2"), D.str (Str.ofString "ZzZzZzZzZzZz")] = names3.map fun l => .str (S l) := by simp [names3, ← tgS]
  simp [ev_setr, h0, sz3]
  rw [e]
  simp [p1, a1b, b1b, s4, Rec.d, h0]
noncomputable def ev_other : Ev := evIf (evTCmp (dEqv false) (evVar 4) (evC (.int 2))) (evTup (evCons (evC (.str "program")) (evCons (evCall m__law_text (evCons (evVar 0) evNil)) evNil))) (evTup (evCons (evC (.str "kept")) (evCons (evCall m__law_draw (evCons (evVar 0) (evCons (evC (.int 1000)) evNil))) (evCons (evCall m__law_draw (evCons (evVar 0) (evCons (evBin dPow (evC (.int 10)) (evC (.int 9))) evNil))) evNil))))
theorem v_other (ρ : PDL.Env) (μ : Store) (n : Nat) (wy : Int) (h0 : ρ[0]? = some (some (.loc n))) (h4 : ρ[4]? = some (some (.int wy))) (hp : Pot μ n) : ∃ r μ', ev_other ρ μ = some (r.d, μ') ∧ (r.tag = "program" ∨ r.tag = "kept") ∧ ROk r ∧ Sx n μ μ' := by
  by_cases hw : wy = 2
  · obtain ⟨t, μ1, a1, a2, a3⟩ := v_text μ n hp
    refine ⟨.prog t, μ1, ?_, .inl rfl, tok_prog a2, a3⟩
    simp [ev_other, h0, h4, hw, a1, sz2, Rec.d]
  · obtain ⟨d, μ1, b1, b2, b3, b4, b5⟩ := v_draw μ n 1000 hp (by decide) (by decide)
    have hpow : ∀ μ : Store, dPow (.int 10) (.int 9) μ = some (.int (10 ^ 9), μ) := fun μ => v_pow_int ⟨by decide, by decide, by decide⟩
    obtain ⟨e, μ2, c1, c2, c3, c4, c5⟩ := v_draw μ1 n (10 ^ 9) b4.pot (by decide) (by decide)
    have h9 : (10 : Int) ^ 9 = 1000000000 := by decide
    refine ⟨.kept d e, μ2, ?_, .inr rfl, kept_ok b2 (by omega) c2 (by omega), b4.trans c4⟩
    rw [h9] at c1 hpow
    simp [ev_other, h0, h4, hw, b1, hpow, c1, sz3, Rec.d]
theorem app_step {E : Ev} {ρ : PDL.Env} {μ1 μ2 : Store} {f : Nat} {X : List D} {d : D} (h2 : ρ[2]? = some (some (.loc f))) (hg1 : μ1[f]? = some (.lst X)) (hE : E ρ μ1 = some (d, μ2)) (hg2 : μ2[f]? = some (.lst X)) (hl : X.length < sizeLine) :
    evDrop (evMeth "list" dAppend (evVar 2) (evCons E evNil)) ρ μ1 = some (.nx, ρ, μ2.set f (.lst (X ++ [d]))) := by
  simp [h2, isTy_loc hg1, hE, v_append hg2 hl]
def Tags (s : Option String) : Prop := s = some "told" ∨ s = some "set" ∨ s = some "program" ∨ s = some "kept"
theorem lastTag_snoc (xs : List Rec) (r : Rec) : lastTag (xs ++ [r]) = some r.tag := by simp [lastTag]
noncomputable def ev_recB : EvS := (evSeq (evPar 3 4 (evCons (evBin dIx (evBin dIx (evVar 2) (evUn dNeg (evC (.int 1)))) (evC (.int 0))) (evCons (evCall m__law_draw (evCons (evVar 0) (evCons (evC (.int 4)) evNil))) evNil)))
    (evIfS (evOrT (evTCmp (dEqv false) (evVar 3) (evC (.str "program"))) (evAndT (evTCmp (dEqv false) (evVar 3) (evC (.str "set"))) (evTCmp dLt (evVar 4) (evC (.int 2)))))
    (evDrop (evMeth "list" dAppend (evVar 2) (evCons ev_told evNil)))
    (evIfS (evOrT (evTCmp (dEqv false) (evVar 3) (evC (.str "set"))) (evTCmp dLt (evVar 4) (evC (.int 2))))
    (evDrop (evMeth "list" dAppend (evVar 2) (evCons ev_setr evNil)))
    (evDrop (evMeth "list" dAppend (evVar 2) (evCons ev_other evNil))))))
theorem v_records (μ : Store) (n : Nat) (many : Nat) (hm : 3 ≤ many) (hm2 : many ≤ 30) (hp : Pot μ n) : ∃ f μ' xs, m__law_records [.loc n, .int many] μ = some (.loc f, μ') ∧ μ'[f]? = some (.lst (xs.map Rec.d)) ∧ μ.length ≤ f ∧ xs.length = many ∧ (∀ r ∈ xs, ROk r) ∧ Seq xs ∧ Sx n μ μ' := by
  obtain ⟨t1, μ1, a1, a2, a3⟩ := v_text μ n hp
  obtain ⟨t2, μ2, b1, b2, b3⟩ := v_text μ1 n a3.pot
  obtain ⟨r3, μ3, c1, c2, c3, c4⟩ := v_told [some (.loc n), some (.int many), none, none, none, none] μ2 n rfl b3.pot
  have hpt := hp.lt
  have hs3 := a3.trans (b3.trans c4)
  obtain ⟨X, hX⟩ : ∃ X : List Rec, X = [.prog t1, .inp t2, r3] := ⟨_, rfl⟩
  obtain ⟨μ4, e4⟩ : ∃ μ4, μ4 = μ3 ++ [MO.lst (X.map Rec.d)] := ⟨_, rfl⟩
  have hs4 : Sx n μ μ4 := by rw [e4]; exact hs3.trans (Sx.push hs3.pot _)
  have hg4 : μ4[μ3.length]? = some (.lst (X.map Rec.d)) := by rw [e4]; exact get_last
  have hsl := v_sl_loc (lo := none) (hi := some (many : Int)) hg4
  rw [cutD_b, List.take_of_length_le (by rw [List.length_map, hX]; exact hm)] at hsl
  obtain ⟨μ5, e5⟩ : ∃ μ5, μ5 = μ4 ++ [MO.lst (X.map Rec.d)] := ⟨_, rfl⟩
  rw [← e5] at hsl
  have hs5 : Sx n μ μ5 := by rw [e5]; exact hs4.trans (Sx.push hs4.pot _)
  have hg5 : μ5[μ4.length]? = some (.lst (X.map Rec.d)) := by rw [e5]; exact get_last
  have hfn : μ4.length ≠ n := by have := hs4.len; omega
  obtain ⟨rr, hr, hR⟩ := for_run (it := eiRange (evCons (evBin dSub (evVar 1) (evC (.int 3))) evNil)) (g := egName 5) (b := ev_recB)
    (ρ := [some (.loc n), some (.int many), some (.loc μ4.length), none, none, none]) (μ := μ5) (μ1 := μ5) (rd := rdRange (many - 3)) (many - 3)
    (fun i ρ μ' => ∃ (xs : List Rec) (x3 x4 x5 : Option D), ρ = [some (.loc n), some (.int many), some (.loc μ4.length), x3, x4, x5] ∧ μ'[μ4.length]? = some (.lst (xs.map Rec.d)) ∧ i ≤ many - 3 ∧ xs.length = 3 + i ∧ (∀ r ∈ xs, ROk r) ∧ Seq xs ∧ Tags (lastTag xs) ∧ Sx n μ μ')
    (fun r => ∃ (xs : List Rec) (x3 x4 x5 : Option D) (μ' : Store), r = (.nx, [some (.loc n), some (.int many), some (.loc μ4.length), x3, x4, x5], μ') ∧ μ'[μ4.length]? = some (.lst (xs.map Rec.d)) ∧ xs.length = many ∧ (∀ r ∈ xs, ROk r) ∧ Seq xs ∧ Sx n μ μ')
    (by
      have h62 : (2 : Int) ^ 62 = 4611686018427387904 := by decide
      have ht : ((many : Int) - 3).toNat = many - 3 := by omega
      simp [ht]
      omega)
    (by omega)
    ⟨X, none, none, none, rfl, hg5, Nat.zero_le _, by rw [hX]; rfl, by
      intro r hr
      rw [hX] at hr
      simp only [List.mem_cons, List.mem_nil_iff, or_false] at hr
      rcases hr with rfl | rfl | rfl
      · exact tok_prog a2
      · exact tok_inp b2
      · exact c3, by
      intro i r hr
      rw [hX] at hr ⊢
      match i with
      | 0 => cases hr; rfl
      | 1 => cases hr; rfl
      | 2 =>
        cases hr
        show fol [.prog t1, .inp t2] _ = true
        have ht2 : (Rec.inp t2).tag = "inputs" := rfl
        simp [fol, lastTag, ht2, canF, c2]
      | i + 3 => simp at hr, by rw [hX]; exact .inl (by simp [lastTag, c2]), hs5⟩
    (by
      rintro i ρ μ' ⟨xs, x3, x4, x5, rfl, hg, hi, hxl, hok, hsq, htg, hsx⟩
      refine ⟨hi, ?_⟩
      by_cases he : i = many - 3
      · exact .inl ⟨by unfold rdRange; rw [if_neg (by omega)], xs, x3, x4, x5, μ', rfl, hg, by omega, hok, hsq, hsx⟩
      · have hlt : i < many - 3 := by omega
        obtain ⟨wy, μ6, d1, d2, d3, d4, d5⟩ := v_draw μ' n 4 hsx.pot (by decide) (by decide)
        have hg6 := d4.get hg hfn
        obtain ⟨lt, hlt2⟩ : ∃ s, lastTag xs = some s := by
          rcases htg with h | h | h | h <;> exact ⟨_, h⟩
        have hlast : ∃ l, xs.getLast? = some l ∧ l.tag = lt := by
          unfold lastTag at hlt2
          obtain ⟨l, h1, h2⟩ := map_some hlt2
          exact ⟨l, h1, h2⟩
        obtain ⟨l, hl1, hl2⟩ := hlast
        have hixl : dIx (.loc μ4.length) (.int (-1)) μ' = some (l.d, μ') := by
          rw [v_ix_loc hg, atI_m, List.length_map, List.getElem?_map, ← List.getLast?_eq_getElem?, hl1]
          rfl
        have hpar : evPar 3 4 (evCons (evBin dIx (evBin dIx (evVar 2) (evUn dNeg (evC (.int 1)))) (evC (.int 0))) (evCons (evCall m__law_draw (evCons (evVar 0) (evCons (evC (.int 4)) evNil))) evNil)) [some (.loc n), some (.int many), some (.loc μ4.length), x3, x4, some (.int (i : Nat))] μ' = some (.nx, [some (.loc n), some (.int many), some (.loc μ4.length), some (.str (Str.ofString lt)), some (.int wy), some (.int (i : Nat))], μ6) := by
          simp [hixl, Rec.ix0, hl2, d1]
        have hXl : (xs.map Rec.d).length < sizeLine := by rw [List.length_map, size_eq]; omega
        have hx1 : ¬ xs.length = 1 := by omega
        have fin : ∀ (E : Ev) (r : Rec) (μ7 : Store), evDrop (evMeth "list" dAppend (evVar 2) (evCons E evNil)) [some (.loc n), some (.int many), some (.loc μ4.length), some (.str (Str.ofString lt)), some (.int wy), some (.int (i : Nat))] μ6 = some (.nx, [some (.loc n), some (.int many), some (.loc μ4.length), some (.str (Str.ofString lt)), some (.int wy), some (.int (i : Nat))], μ7.set μ4.length (.lst (xs.map Rec.d ++ [r.d]))) → μ7[μ4.length]? = some (.lst (xs.map Rec.d)) → ROk r → fol xs r = true → Tags (some r.tag) → Sx n μ6 μ7 →
            ∃ (xs' : List Rec) (x3 x4 x5 : Option D), [some (.loc n), some (.int many), some (.loc μ4.length), some (.str (Str.ofString lt)), some (.int wy), some (.int (i : Nat))] = [some (.loc n), some (.int many), some (.loc μ4.length), x3, x4, x5] ∧ (μ7.set μ4.length (.lst (xs.map Rec.d ++ [r.d])))[μ4.length]? = some (.lst (xs'.map Rec.d)) ∧ i + 1 ≤ many - 3 ∧ xs'.length = 3 + (i + 1) ∧ (∀ r ∈ xs', ROk r) ∧ Seq xs' ∧ Tags (lastTag xs') ∧ Sx n μ (μ7.set μ4.length (.lst (xs.map Rec.d ++ [r.d]))) := by
          intro E r μ7 _ h2 h3 h4 h5 h6
          refine ⟨xs ++ [r], _, _, _, rfl, ?_, by omega, by simp; omega, ?_, seq_snoc hsq h4, by rw [lastTag_snoc]; exact h5, ?_⟩
          · rw [List.getElem?_set_self (List.getElem?_eq_some_iff.mp h2).1]
            simp
          · intro x hx
            rcases List.mem_append.mp hx with hx | hx
            · exact hok x hx
            · rw [List.mem_singleton.mp hx]; exact h3
          · exact (hsx.trans (d4.trans h6)).setNew _ hfn hs4.len
        by_cases k1 : lt = "program" ∨ (lt = "set" ∧ wy < 2)
        · obtain ⟨r, μ7, q1, q2, q3, q4⟩ := v_told [some (.loc n), some (.int many), some (.loc μ4.length), some (.str (Str.ofString lt)), some (.int wy), some (.int (i : Nat))] μ6 n rfl d4.pot
          have hg7 := q4.get hg6 hfn
          have hap := app_step (E := ev_told) (f := μ4.length) rfl hg6 q1 hg7 hXl
          refine .inr ⟨hlt, .int (i : Nat), _, μ', .nx, _, μ7.set μ4.length (.lst (xs.map Rec.d ++ [r.d])), by unfold rdRange; rw [if_pos hlt], rfl, ?_, fin ev_told r μ7 hap hg7 q3 ?_ (by rw [q2]; exact .inl rfl) q4⟩
          · unfold ev_recB
            rw [s_evSeq]
            show kSeq _ (evPar 3 4 _ [some (.loc n), some (.int many), some (.loc μ4.length), x3, x4, some (.int (i : Nat))] μ') = _
            rw [hpar, kSeq_n, s_evIfS]
            have ht : evOrT (evTCmp (dEqv false) (evVar 3) (evC (.str "program"))) (evAndT (evTCmp (dEqv false) (evVar 3) (evC (.str "set"))) (evTCmp dLt (evVar 4) (evC (.int 2)))) [some (.loc n), some (.int many), some (.loc μ4.length), some (.str (Str.ofString lt)), some (.int wy), some (.int (i : Nat))] μ6 = some (true, μ6) := by
              rcases k1 with k1 | ⟨k1, k2⟩
              · simp [k1]
              · simp [k1, k2]
            rw [ht, kIfS_s, if_pos rfl]
            exact hap
          · unfold fol
            rw [if_neg hx1, hlt2]
            rcases k1 with k1 | ⟨k1, k2⟩
            · simp [k1, q2]
            · simp [k1, q2, canF]
        · have kp : ¬ lt = "program" := fun h => k1 (.inl h)
          have ht : evOrT (evTCmp (dEqv false) (evVar 3) (evC (.str "program"))) (evAndT (evTCmp (dEqv false) (evVar 3) (evC (.str "set"))) (evTCmp dLt (evVar 4) (evC (.int 2)))) [some (.loc n), some (.int many), some (.loc μ4.length), some (.str (Str.ofString lt)), some (.int wy), some (.int (i : Nat))] μ6 = some (false, μ6) := by
            by_cases ks : lt = "set"
            · have : ¬ wy < 2 := fun h => k1 (.inr ⟨ks, h⟩)
              simp [kp, ks, this]
            · simp [kp, ks]
          by_cases k2 : lt = "set" ∨ wy < 2
          · obtain ⟨r, μ7, q1, q2, q3, q4⟩ := v_setr [some (.loc n), some (.int many), some (.loc μ4.length), some (.str (Str.ofString lt)), some (.int wy), some (.int (i : Nat))] μ6 n rfl d4.pot
            have hg7 := q4.get hg6 hfn
            have hap := app_step (E := ev_setr) (f := μ4.length) rfl hg6 q1 hg7 hXl
            refine .inr ⟨hlt, .int (i : Nat), _, μ', .nx, _, μ7.set μ4.length (.lst (xs.map Rec.d ++ [r.d])), by unfold rdRange; rw [if_pos hlt], rfl, ?_, fin ev_setr r μ7 hap hg7 q3 ?_ (by rw [q2]; exact .inr (.inl rfl)) q4⟩
            · unfold ev_recB
              rw [s_evSeq]
              show kSeq _ (evPar 3 4 _ [some (.loc n), some (.int many), some (.loc μ4.length), x3, x4, some (.int (i : Nat))] μ') = _
              rw [hpar, kSeq_n, s_evIfS, ht, kIfS_s, if_neg (by decide), s_evIfS]
              have ht2 : evOrT (evTCmp (dEqv false) (evVar 3) (evC (.str "set"))) (evTCmp dLt (evVar 4) (evC (.int 2))) [some (.loc n), some (.int many), some (.loc μ4.length), some (.str (Str.ofString lt)), some (.int wy), some (.int (i : Nat))] μ6 = some (true, μ6) := by
                by_cases ks : lt = "set"
                · simp [ks]
                · have hw : wy < 2 := k2.resolve_left ks
                  simp [ks, hw]
              rw [ht2, kIfS_s, if_pos rfl]
              exact hap
            · unfold fol
              rw [if_neg hx1, hlt2]
              rcases htg with h | h | h | h <;> rw [hlt2] at h <;> cases h <;> simp [q2, canF] at kp ⊢
          · have ht2 : evOrT (evTCmp (dEqv false) (evVar 3) (evC (.str "set"))) (evTCmp dLt (evVar 4) (evC (.int 2))) [some (.loc n), some (.int many), some (.loc μ4.length), some (.str (Str.ofString lt)), some (.int wy), some (.int (i : Nat))] μ6 = some (false, μ6) := by
              have k3 : ¬ lt = "set" := fun h => k2 (.inl h)
              have k4 : ¬ wy < 2 := fun h => k2 (.inr h)
              simp [k3, k4]
            obtain ⟨r, μ7, q1, q2, q3, q4⟩ := v_other [some (.loc n), some (.int many), some (.loc μ4.length), some (.str (Str.ofString lt)), some (.int wy), some (.int (i : Nat))] μ6 n wy rfl rfl d4.pot
            have hg7 := q4.get hg6 hfn
            have hap := app_step (E := ev_other) (f := μ4.length) rfl hg6 q1 hg7 hXl
            refine .inr ⟨hlt, .int (i : Nat), _, μ', .nx, _, μ7.set μ4.length (.lst (xs.map Rec.d ++ [r.d])), by unfold rdRange; rw [if_pos hlt], rfl, ?_, fin ev_other r μ7 hap hg7 q3 ?_ (by rcases q2 with q2 | q2 <;> rw [q2]; exact .inr (.inr (.inl rfl)); exact .inr (.inr (.inr rfl))) q4⟩
            · unfold ev_recB
              rw [s_evSeq]
              show kSeq _ (evPar 3 4 _ [some (.loc n), some (.int many), some (.loc μ4.length), x3, x4, some (.int (i : Nat))] μ') = _
              rw [hpar, kSeq_n, s_evIfS, ht, kIfS_s, if_neg (by decide), s_evIfS, ht2, kIfS_s, if_neg (by decide)]
              exact hap
            · have k3 : ¬ lt = "set" := fun h => k2 (.inl h)
              unfold fol
              rw [if_neg hx1, hlt2]
              rcases htg with h | h | h | h <;> rw [hlt2] at h <;> cases h <;> rcases q2 with q2 | q2 <;> simp [q2, canF] at kp k3 ⊢)
  obtain ⟨xs, x3, x4, x5, μ', rfl, w1, w2, w3, w4, w5⟩ := hR
  refine ⟨μ4.length, μ', xs, ?_, w1, hs4.len, w2, w3, w4, w5⟩
  have e1 : evAsg (evSl dSl (evLst (evCons (evTup (evCons (evC (.str "program")) (evCons (evCall m__law_text (evCons (evVar 0) evNil)) evNil))) (evCons (evTup (evCons (evC (.str "inputs")) (evCons (evCall m__law_text (evCons (evVar 0) evNil)) evNil))) (evCons ev_told evNil)))) evONone (evOSome (evVar 1))) (egName 2) [some (.loc n), some (.int many), none, none, none, none] μ = some (.nx, [some (.loc n), some (.int many), some (.loc μ4.length), none, none, none], μ5) := by
    have hX2 : [D.tup [D.str (Str.ofString "program"), D.str (S t1)], D.tup [D.str (Str.ofString "inputs"), D.str (S t2)], r3.d] = X.map Rec.d := by rw [hX]; rfl
    simp [a1, b1, c1, sz2, sz3]
    rw [hX2, ← e4]
    simp [hsl]
  have e3 : startD N__law_records [.loc n, .int many] = [some (.loc n), some (.int many), none, none, none, none] := rfl
  show runF N__law_records (evSeq (evAsg (evSl dSl (evLst (evCons (evTup (evCons (evC (.str "program")) (evCons (evCall m__law_text (evCons (evVar 0) evNil)) evNil))) (evCons (evTup (evCons (evC (.str "inputs")) (evCons (evCall m__law_text (evCons (evVar 0) evNil)) evNil))) (evCons ev_told evNil)))) evONone (evOSome (evVar 1))) (egName 2)) (evSeq (evFor (eiRange (evCons (evBin dSub (evVar 1) (evC (.int 3))) evNil)) (egName 5) ev_recB) (evRet (evVar 2)))) 2 [.loc n, .int many] μ = _
  rw [s_runF, if_pos (by rfl), e3, s_evSeq, e1, kSeq_n, s_evSeq, hr]
  simp
end K73
set_option Elab.async false
set_option linter.all false
set_option maxRecDepth 100000
namespace K73
open PySem PySem.Spec PyProof.Rows L2 PDL SX Tel
/-! ### the sum feels one sign -/
theorem sgs_one (l : List Nat) : (sgs l).1 = (1 + ((l.sum : Nat) : Int)) % 9973 := by
  have key : ∀ (l : List Nat) (p : Int × Int), 0 ≤ p.1 → (l.foldl sg p).1 % 9973 = (p.1 + ((l.sum : Nat) : Int)) % 9973 := by
    intro l
    induction l with
    | nil => intro p _; simp
    | cons c r ih =>
      intro p hp
      rw [List.foldl_cons, ih (sg p c) (by simp only [sg]; omega), List.sum_cons]
      simp only [sg]
      omega
  have h := key l (1, 0) (by decide)
  have h2 := sgs_lt l
  have h3 : (sgs l).1 % 9973 = (sgs l).1 := by omega
  rw [← h3]
  exact h
theorem sum_mod {a b : List Nat} (h : sumI a = sumI b) : (1 + ((a.sum : Nat) : Int)) % 9973 = (1 + ((b.sum : Nat) : Int)) % 9973 := by
  have ha := sgs_lt a
  have hb := sgs_lt b
  rw [← sgs_one a, ← sgs_one b]
  unfold sumI at h
  omega
theorem sum_change {p q : List Nat} {a b : Nat} (ha : a < 128) (hb : b < 128) (h : sumI (p ++ a :: q) = sumI (p ++ b :: q)) : a = b := by
  have := sum_mod h
  simp only [List.sum_append, List.sum_cons] at this
  omega
theorem sum_drop {p q : List Nat} {a : Nat} (ha : a < 128) (h0 : 0 < a) (h : sumI (p ++ a :: q) = sumI (p ++ q)) : False := by
  have := sum_mod h
  simp only [List.sum_append, List.sum_cons] at this
  omega
theorem show_inj {a b : List Nat} (h : showL (sumI a) = showL (sumI b)) : sumI a = sumI b := showL_inj h (sumI_abs a) (sumI_abs b)
/-! ### refused lines -/
theorem acc_last {n : Int} {h t : List Nat} {r : Rec} (ht : 32 ∉ t) (ha : Acc n (h ++ 32 :: t) r) : t = showL (sumI h) := by
  have h2 := ha.2.2.1
  rw [P_snoc h ht, List.dropLast_concat, P_join] at h2
  simp at h2
  exact h2
theorem acc_first {n m : Int} {q : List Nat} {r : Rec} (ha : Acc n (showL m ++ 32 :: q) r) : showL m = showL n := by
  have h2 := ha.2.1
  rw [P_cons q (fun h => (show_free m 32 h).1 rfl)] at h2
  simpa using h2
theorem acc_nil {n : Int} {r : Rec} (ha : Acc n [] r) : False := by
  have h := ha.1
  rw [P_one (p := []) (by simp)] at h
  simp at h
theorem rej_none {recs : List Rec} {rest : List Nat} (h : 10 ∉ rest) : Rej recs rest := by
  intro p q r e _ _ _
  exact absurd (by rw [e]; simp) h
theorem rej_line {recs : List Rec} {p q : List Nat} (hp : 10 ∉ p) (h : ∀ r, ¬ Acc (recs.length : Nat) p r) : Rej recs (p ++ 10 :: q) := by
  intro p' q' r e hp' _ ha
  obtain ⟨rfl, _⟩ := app_inj10 e hp hp'
  exact absurd ha (h r)
/-- another line's number -/
theorem rej_number {recs : List Rec} {m : Nat} {r : Rec} {q : List Nat} (hg : r.Good) (hm : m ≠ recs.length) (h1 : m < 1000000) (h2 : recs.length < 1000000) : Rej recs (line (m : Nat) r ++ q) := by
  have e : line (m : Nat) r ++ q = line0 (m : Nat) r ++ 10 :: q := by simp [line]
  rw [e]
  refine rej_line (fun h => (line_no10 hg 10 h).1 rfl) fun r' ha => ?_
  have e2 : line0 (m : Nat) r = showL (m : Nat) ++ 32 :: (TL.joinL [32] r.parts ++ 32 :: showL (sumI (head (m : Nat) r))) := by
    unfold line0
    rw [head_cons]
    simp
  rw [e2] at ha
  have h10 : (10 : Nat) ^ 20 = 100000000000000000000 := by decide
  have := showL_inj (acc_first ha) (by omega) (by omega)
  omega
theorem rej_late {recs : List Rec} {t : List Nat} {q : List Nat} (hg : (Rec.inp t).Good) (h3 : 3 ≤ recs.length) : Rej recs (line (recs.length : Nat) (.inp t) ++ q) := by
  have e : line (recs.length : Nat) (.inp t) ++ q = line0 (recs.length : Nat) (.inp t) ++ 10 :: q := by simp [line]
  rw [e]
  intro p' q' r e hp' _ ha
  obtain ⟨rfl, _⟩ := app_inj10 e (fun h => (line_no10 hg 10 h).1 rfl) hp'
  have hr : r = .inp t := by
    have h1 := (acc_line (n := (recs.length : Nat)) hg).2.2.2
    have h2 := ha.2.2.2
    rw [h1] at h2
    exact (Option.some.inj h2).symm
  subst hr
  unfold fol
  rw [if_neg (by omega)]
  have ht : (Rec.inp t).tag = "inputs" := rfl
  rw [ht]
  split
  · rfl
  · unfold canF
    split
    · rfl
    · split
      · rfl
      · split <;> rfl
/-! ### a line spoilt -/
theorem tail_free (h : List Nat) : 32 ∉ showL (sumI h) := fun z => (show_free _ 32 z).1 rfl
theorem split_lt {A t p q : List Nat} {a b : Nat} (h : A ++ b :: t = p ++ a :: q) (hl : p.length < A.length) : ∃ k, A = p ++ a :: k ∧ q = k ++ b :: t := by
  rcases List.append_eq_append_iff.mp h with ⟨as, h1, h2⟩ | ⟨bs, h1, h2⟩
  · rw [h1, List.length_append] at hl
    omega
  · cases bs with
    | nil => rw [h1] at hl; simp at hl
    | cons x r =>
      simp only [List.cons_append, List.cons.injEq] at h2
      obtain ⟨rfl, h3⟩ := h2
      exact ⟨r, h1, h3⟩
theorem split_gt {A t p q : List Nat} {a b : Nat} (h : A ++ b :: t = p ++ a :: q) (hl : A.length < p.length) : ∃ k, p = A ++ b :: k ∧ t = k ++ a :: q := by
  rcases List.append_eq_append_iff.mp h with ⟨as, h1, h2⟩ | ⟨bs, h1, h2⟩
  · cases as with
    | nil => rw [h1] at hl; simp at hl
    | cons x r =>
      simp only [List.cons_append, List.cons.injEq] at h2
      obtain ⟨rfl, h3⟩ := h2
      exact ⟨r, h1, h3⟩
  · rw [h1, List.length_append] at hl
    omega
/-- the line with its sign s (not the last blank, not the end) replaced by c, or dropped -/
theorem spoil {n : Int} {r : Rec} (hg : r.Good) {p q : List Nat} {a : Nat} (he : line0 n r = p ++ a :: q) (hs : p.length ≠ (head n r).length) (c : Nat) (hc : c < 128) (hca : c ≠ a) (h32 : p.length < (head n r).length ∨ c ≠ 32) : ∀ r', ¬ Acc n (p ++ c :: q) r' := by
  intro r' ha
  have hasc : ∀ x ∈ line0 n r, x < 128 := fun x hx => (line_no10 hg x hx).2
  have haa : a < 128 := hasc a (by rw [he]; simp)
  unfold line0 at he
  rcases Nat.lt_or_ge p.length (head n r).length with hlt | hge
  · -- in the head
    obtain ⟨k, hk, hq⟩ := split_lt he hlt
    rw [hq] at ha
    have e2 : p ++ c :: (k ++ 32 :: showL (sumI (head n r))) = (p ++ c :: k) ++ 32 :: showL (sumI (head n r)) := by simp
    rw [e2] at ha
    have h3 := acc_last (tail_free _) ha
    rw [hk] at h3
    exact hca (sum_change hc haa (show_inj h3).symm)
  · have hgt : (head n r).length < p.length := by omega
    have hc32 : c ≠ 32 := h32.resolve_left (by omega)
    obtain ⟨k, hk, hq⟩ := split_gt he hgt
    have hk32 : 32 ∉ k ++ c :: q := by
      intro hm
      have hf := tail_free (head n r)
      rw [hq] at hf
      rcases List.mem_append.mp hm with hm | hm
      · exact hf (List.mem_append_left _ hm)
      · rcases List.mem_cons.mp hm with hm | hm
        · exact hc32 hm.symm
        · exact hf (List.mem_append_right _ (List.mem_cons_of_mem _ hm))
    have e2 : p ++ c :: q = head n r ++ 32 :: (k ++ c :: q) := by rw [hk]; simp
    rw [e2] at ha
    have h3 := acc_last hk32 ha
    rw [hq] at h3
    have := List.append_cancel_left h3
    exact hca (List.cons.inj this).1
theorem spoil_drop {n : Int} {r : Rec} (hg : r.Good) {p q : List Nat} {a : Nat} (he : line0 n r = p ++ a :: q) (hs : p.length ≠ (head n r).length) (h0 : 0 < a) : ∀ r', ¬ Acc n (p ++ q) r' := by
  intro r' ha
  have hasc : ∀ x ∈ line0 n r, x < 128 := fun x hx => (line_no10 hg x hx).2
  have haa : a < 128 := hasc a (by rw [he]; simp)
  unfold line0 at he
  rcases Nat.lt_or_ge p.length (head n r).length with hlt | hge
  · obtain ⟨k, hk, hq⟩ := split_lt he hlt
    rw [hq] at ha
    have e2 : p ++ (k ++ 32 :: showL (sumI (head n r))) = (p ++ k) ++ 32 :: showL (sumI (head n r)) := by simp
    rw [e2] at ha
    have h3 := acc_last (tail_free _) ha
    rw [hk] at h3
    exact sum_drop haa h0 (show_inj h3)
  · have hgt : (head n r).length < p.length := by omega
    obtain ⟨k, hk, hq⟩ := split_gt he hgt
    have hk32 : 32 ∉ k ++ q := by
      intro hm
      have hf := tail_free (head n r)
      rw [hq] at hf
      rcases List.mem_append.mp hm with hm | hm
      · exact hf (List.mem_append_left _ hm)
      · exact hf (List.mem_append_right _ (List.mem_cons_of_mem _ hm))
    have e2 : p ++ q = head n r ++ 32 :: (k ++ q) := by rw [hk]; simp
    rw [e2] at ha
    have h3 := acc_last hk32 ha
    rw [hq] at h3
    have := congrArg List.length h3
    simp at this
/-! ### where a place lies -/
def endsL : List (List Nat) → Nat → List Nat
  | [], _ => []
  | l :: r, b => (b + l.length) :: endsL r (b + l.length)
theorem endsL_ge : ∀ (ls : List (List Nat)) (b : Nat), ∀ e ∈ endsL ls b, b ≤ e
  | [], _, e, h => by cases h
  | l :: r, b, e, h => by
    rcases List.mem_cons.mp h with rfl | h
    · omega
    · have := endsL_ge r (b + l.length) e h
      omega
theorem ends_len : ∀ (ls : List (List Nat)) (b : Nat), (endsL ls b).length = ls.length
  | [], _ => rfl
  | l :: r, b => by simp [endsL, ends_len r]
theorem ends_at : ∀ (ls : List (List Nat)) (b i : Nat), i < ls.length → (endsL ls b)[i]? = some (b + (ls.take (i + 1)).flatten.length)
  | [], _, i, h => by simp at h
  | l :: r, b, 0, _ => by simp [endsL]
  | l :: r, b, i + 1, h => by
    simp only [List.length_cons] at h
    simp only [endsL, List.getElem?_cons_succ]
    rw [ends_at r (b + l.length) i (by omega), List.take_succ_cons, List.flatten_cons, List.length_append]
    congr 1
    omega
theorem whole_of : ∀ (ls : List (List Nat)) (b c : Nat), (∀ l ∈ ls, 1 ≤ l.length) → b ≤ c → ∃ k, k ≤ ls.length ∧ ((endsL ls b).filter fun e => decide (e ≤ c)).length = k ∧ b + (ls.take k).flatten.length ≤ c ∧ (k < ls.length → c < b + (ls.take (k + 1)).flatten.length)
  | [], b, c, _, hb => ⟨0, Nat.le_refl _, rfl, by simpa using hb, fun h => by simp at h⟩
  | l :: r, b, c, hl, hb => by
    by_cases h : b + l.length ≤ c
    · obtain ⟨k, h1, h2, h3, h4⟩ := whole_of r (b + l.length) c (fun x hx => hl x (List.mem_cons_of_mem _ hx)) h
      refine ⟨k + 1, by simp; omega, ?_, ?_, fun hk => ?_⟩
      · simp [endsL, h, h2]
      · rw [List.take_succ_cons, List.flatten_cons, List.length_append]
        omega
      · simp only [List.length_cons] at hk
        have := h4 (by omega)
        rw [List.take_succ_cons, List.flatten_cons, List.length_append]
        omega
    · refine ⟨0, Nat.zero_le _, ?_, by simpa using hb, fun _ => ?_⟩
      · have : (endsL (l :: r) b).filter (fun e => decide (e ≤ c)) = [] := by
          rw [List.filter_eq_nil_iff]
          intro e he
          have : b + l.length ≤ e := by
            rcases List.mem_cons.mp he with rfl | he
            · exact Nat.le_refl _
            · exact endsL_ge r _ e he
          simp
          omega
        rw [this]
        rfl
      · simp
        omega
theorem linesL_take (xs : List Rec) (k : Nat) : linesL (xs.take k) = (linesL xs).take k := by
  apply List.ext_getElem?
  intro i
  unfold linesL
  rw [List.getElem?_mapIdx, List.getElem?_take, List.getElem?_take, List.getElem?_mapIdx]
  split <;> rfl
theorem seq_take {xs : List Rec} (h : Seq xs) (k : Nat) : Seq (xs.take k) := by
  intro i r hr
  rw [List.getElem?_take] at hr
  split at hr
  · rename_i hi
    rw [List.take_take, Nat.min_eq_left (by omega)]
    exact h i r hr
  · cases hr
theorem line_pos (n : Int) (r : Rec) : 1 ≤ (line n r).length := by simp [line]
theorem linesL_pos (xs : List Rec) : ∀ l ∈ linesL xs, 1 ≤ l.length := by
  intro l hl
  obtain ⟨i, hi⟩ := List.getElem?_of_mem hl
  unfold linesL at hi
  rw [List.getElem?_mapIdx] at hi
  obtain ⟨r, _, rfl⟩ := map_some hi
  exact line_pos _ _
theorem linesL_asc (xs : List Rec) (h : ∀ r ∈ xs, ROk r) : Asc (linesL xs).flatten := by
  intro c hc
  obtain ⟨l, hl, hc⟩ := List.mem_flatten.mp hc
  obtain ⟨i, hi⟩ := List.getElem?_of_mem hl
  unfold linesL at hi
  rw [List.getElem?_mapIdx] at hi
  obtain ⟨r, hr, rfl⟩ := map_some hi
  unfold line at hc
  rcases List.mem_append.mp hc with hc | hc
  · exact (line_no10 (h r (List.mem_of_getElem? hr)).2 c hc).2
  · simp at hc
    omega
end K73
set_option Elab.async false
set_option linter.all false
set_option maxRecDepth 100000
namespace K73
open PySem PySem.Spec PyProof.Rows L2 PDL SX Tel
noncomputable def m_want_journal := trim0 (runF N_want_journal ev_want_journal 1)
theorem v_want (cs : List Nat) (μ : Store) (hl : cs.length ≤ 200000) : m_want_journal [.str (S cs)] μ = some (.str (S cs), μ) := by
  refine trim0_eq (ex := []) ?_
  simp [ev_want_journal, startD, isiTys, isiB, v_len_str (l := cs) (by rw [size_eq]; omega), show ¬ (200000 : Int) < (cs.length : Int) by omega]
noncomputable def m_read_journal := runF N_read_journal (ev_read_journal m_read_of m_want_journal) 1
theorem read_eq (cs : List Nat) (μ : Store) (hl : cs.length ≤ 200000) : m_read_journal [.str (S cs)] μ = m_read_of [.str (S cs)] μ := by
  unfold m_read_journal
  have e3 : startD N_read_journal [.str (S cs)] = [some (.str (S cs))] := rfl
  unfold ev_read_journal
  rw [s_runF, if_pos (by rfl), e3]
  simp only [s_evRet, s_evCall, s_evCons, s_evVar, s_evNil, List.getElem?_cons_zero, kVar_s, kCons_s, kCons2_s, kCall_s, v_want cs μ hl]
  cases m_read_of [.str (S cs)] μ with
  | none => rfl
  | some p => rfl
theorem v_read (recs : List Rec) (rest : List Nat) (μ0 : Store) (hg : ∀ r ∈ recs, ROk r) (hseq : Seq recs) (ha : Asc ((linesL recs).flatten ++ rest)) (hl : ((linesL recs).flatten ++ rest).length ≤ 200000) :
    ∃ more at_, m_read_journal [.str (S ((linesL recs).flatten ++ rest))] μ0 = some (.tup [.loc μ0.length, .int ((at_ : Nat) : Int)], μ0 ++ [.lst ((recs ++ more).map Rec.d)]) ∧ (∀ r ∈ more, r.Fit) ∧ (recs ++ more).length ≤ 200000 ∧ (Rej recs rest → more = [] ∧ at_ = (linesL recs).flatten.length) := by
  obtain ⟨more, at_, h1, h2, h3, h4⟩ := v_read_of recs _ rest μ0 rfl hg hseq ha (by omega)
  exact ⟨more, at_, by rw [read_eq _ _ hl]; exact h1, h2, by omega, h4⟩
noncomputable def m_sum_of := trim0 (runF N_sum_of (ev_sum_of m_sum_of_signs m_want_journal) 1)
theorem v_sum_of (cs : List Nat) (μ : Store) (hl : cs.length ≤ 200000) : m_sum_of [.str (S cs)] μ = some (.int (sumI cs), μ) := by
  refine trim0_eq (ex := []) ?_
  simp [ev_sum_of, startD, v_want cs μ hl, v_sum_of_signs cs μ (by omega)]
/-! ### == of lists of records -/
theorem rec_dep (r : Rec) (h : r.Sm) : r.p.depth ≤ 10 := by
  cases r with
  | prog t => simp [Rec.p]
  | inp t => simp [Rec.p]
  | set nm a b =>
    have h1 := h.2.2.1.2.2
    have h2 := h.2.2.2.2.2
    simp [Rec.p, Tel.dep]
    omega
  | told t n =>
    have h1 := h.1.2.2
    simp [Rec.p, Tel.dep]
    omega
  | kept m n => simp [Rec.p]
theorem depA : ∀ xs : List Rec, (∀ r ∈ xs, r.Sm) → PyData.depthAll (xs.map Rec.p) ≤ 10
  | [], _ => Nat.zero_le _
  | r :: l, h => by
    have h1 := rec_dep r (h r (List.mem_cons_self ..))
    have h2 := depA l fun x hx => h x (List.mem_cons_of_mem _ hx)
    simp
    omega
theorem py_locR {μ : Store} {n : Nat} {xs : List Rec} (h : μ[n]? = some (.lst (xs.map Rec.d))) : py μ (.loc n) = some (.list (xs.map Rec.p)) := by
  show (match μ[n]? with
    | some (MO.lst xs) => (pyL xs).map PyData.list
    | _ => none) = _
  rw [h]
  simp only [pyL_rec, Option.map_some]
theorem v_eqR {μ : Store} {n m : Nat} {xs : List Rec} {neg : Bool} (h : μ[n]? = some (.lst (xs.map Rec.d))) (h2 : μ[m]? = some (.lst (xs.map Rec.d))) (hs : ∀ r ∈ xs, r.Sm) : dEqv neg (.loc n) (.loc m) μ = some (!neg) := by
  have hlay : PyData.canLay0 (.list (xs.map Rec.p)) = true := by
    have := lay_rec xs fun r hr => (hs r hr).fit
    simpa [PyData.canLay0] using this
  have hd := depA xs hs
  rw [v_eq (py_locR h) (py_locR h2) hlay hlay (by simp [PyData.depth]; omega), PySem.SeqAt.eqv_refl _ hlay]
  cases neg <;> rfl
/-! ### _law_is_right -/
noncomputable def m__law_is_right := trim0 (runF N__law_is_right (ev__law_is_right m_read_journal m_record_line m_are_records m_journal_text) 3)
theorem lines_bound (xs : List Rec) (h : ∀ r ∈ xs, ROk r) (hl : xs.length < 100) (ht : (linesL xs).flatten.length ≤ 200000) : ((linesL xs).map List.length).sum = (linesL xs).flatten.length := by
  rw [List.length_flatten]
theorem v_right (xs : List Rec) (k : Nat) (rest : List Nat) (μ : Store) (f : Nat) (hf : μ[f]? = some (.lst (xs.map Rec.d))) (hok : ∀ r ∈ xs, ROk r) (hsq : Seq xs) (hk : k ≤ xs.length) (hxl : xs.length < 100)
    (ha : Asc ((linesL (xs.take k)).flatten ++ rest)) (hl : ((linesL (xs.take k)).flatten ++ rest).length ≤ 200000) (hrej : Rej (xs.take k) rest) :
    m__law_is_right [.loc f, .int ((k : Nat) : Int), .str (S ((linesL (xs.take k)).flatten ++ rest))] μ = some (.bl true, μ) := by
  obtain ⟨ys, hys⟩ : ∃ ys, ys = xs.take k := ⟨_, rfl⟩
  rw [← hys] at ha hl hrej ⊢
  have hyok : ∀ r ∈ ys, ROk r := fun r hr => hok r (by rw [hys] at hr; exact List.mem_of_mem_take hr)
  have hysq : Seq ys := by rw [hys]; exact seq_take hsq k
  have hyl : ys.length = k := by rw [hys, List.length_take]; omega
  obtain ⟨more, at_, h1, h2, h3, h4⟩ := v_read ys rest μ hyok hysq ha hl
  obtain ⟨h5, h6⟩ := h4 hrej
  subst h5
  rw [List.append_nil] at h1 h3
  obtain ⟨cs, hcs⟩ : ∃ cs, cs = (linesL ys).flatten ++ rest := ⟨_, rfl⟩
  rw [← hcs] at h1 hl ha ⊢
  have hz : cs.length ≤ sizeLine := by rw [size_eq]; omega
  have hpre : (linesL ys).flatten.length ≤ cs.length := by rw [hcs, List.length_append]; omega
  obtain ⟨μ1, e1⟩ : ∃ μ1, μ1 = μ ++ [MO.lst (ys.map Rec.d)] := ⟨_, rfl⟩
  rw [← e1] at h1
  have hfl : f < μ.length := (List.getElem?_eq_some_iff.mp hf).1
  have hf1 : μ1[f]? = some (.lst (xs.map Rec.d)) := by rw [e1, List.getElem?_append_left hfl]; exact hf
  have ht1 : μ1[μ.length]? = some (.lst (ys.map Rec.d)) := by rw [e1]; exact get_last
  have hsl1 := v_sl_loc (lo := none) (hi := some (k : Int)) hf1
  have hcutk : cutD (xs.map Rec.d) none (some (k : Int)) = ys.map Rec.d := by rw [cutD_b, hys, List.map_take]
  rw [hcutk] at hsl1
  obtain ⟨μ2, e2⟩ : ∃ μ2, μ2 = μ1 ++ [MO.lst (ys.map Rec.d)] := ⟨_, rfl⟩
  rw [← e2] at hsl1
  have hg2 : μ2[μ1.length]? = some (.lst (ys.map Rec.d)) := by rw [e2]; exact get_last
  obtain ⟨ex, hc⟩ := comp_all (rd := rdEnum μ1.length) (g := egC2 6 7) (e := evCall m_record_line (evCons (evVar 6) (evCons (evVar 7) evNil))) (ρ := [some (.loc f), some (.int ((k : Nat) : Int)), some (.str (S cs)), some (.loc μ.length), some (.int ((at_ : Nat) : Int)), none, none, none]) (enu (ys.map Rec.d)) ((linesL ys).map fun l => .str (S l)) μ2 (by simp [enu_len, linesL])
    (fun i acc ex => enu_rd hg2 i _) (by rw [enu_len, List.length_map, size_eq]; omega)
    (fun i d y hd hy => by
      obtain ⟨x, hx, rfl⟩ := enu_at hd
      rw [List.getElem?_map] at hx
      obtain ⟨r, hr, rfl⟩ := map_some hx
      have hi : i < ys.length := (List.getElem?_eq_some_iff.mp hr).1
      have hy2 : y = .str (S (line (i : Nat) r)) := by
        rw [List.getElem?_map, linesL_at ys i r hr] at hy
        cases hy
        rfl
      subst hy2
      refine ⟨_, rfl, fun acc ex => ⟨ex, ?_⟩⟩
      have hro := hyok r (List.mem_of_getElem? hr)
      have hn : isN ((i : Nat) : Int) = true := by
        unfold isN
        rw [decide_eq_true (by omega), decide_eq_true (by omega)]
        rfl
      have := v_record_line (i : Nat) r (μ2 ++ .lst acc :: ex) hn hro.1 hro.2
      simp [this])
  obtain ⟨μ3, e3⟩ : ∃ μ3, μ3 = μ2 ++ MO.lst ((linesL ys).map fun l => .str (S l)) :: ex := ⟨_, rfl⟩
  rw [← e3] at hc
  have hj := v_join (μ := μ3) (n := μ2.length) (k := []) (ls := linesL ys) (by rw [e3]; exact get_last)
    (by
      have := List.length_flatten (L := linesL ys)
      simp only [List.length_nil]
      omega)
  rw [joinL_nil] at hj
  have hf3 : μ3[f]? = some (.lst (xs.map Rec.d)) := by
    have h12 : μ1.length = μ.length + 1 := by rw [e1]; simp
    have h23 : μ2.length = μ1.length + 1 := by rw [e2]; simp
    rw [e3, List.getElem?_append_left (by omega), e2, List.getElem?_append_left (by omega)]
    exact hf1
  have ht3 : μ3[μ.length]? = some (.lst (ys.map Rec.d)) := by
    have h12 : μ1.length = μ.length + 1 := by rw [e1]; simp
    have h23 : μ2.length = μ1.length + 1 := by rw [e2]; simp
    rw [e3, List.getElem?_append_left (by omega), e2, List.getElem?_append_left (by omega)]
    exact ht1
  have hsl3 := v_sl_loc (lo := none) (hi := some (k : Int)) hf3
  rw [hcutk] at hsl3
  obtain ⟨μ4, e4⟩ : ∃ μ4, μ4 = μ3 ++ [MO.lst (ys.map Rec.d)] := ⟨_, rfl⟩
  rw [← e4] at hsl3
  have ht4 : μ4[μ.length]? = some (.lst (ys.map Rec.d)) := by rw [e4, List.getElem?_append_left (List.getElem?_eq_some_iff.mp ht3).1]; exact ht3
  have hn4 : μ4[μ3.length]? = some (.lst (ys.map Rec.d)) := by rw [e4]; exact get_last
  have heq := v_eqR (neg := false) ht4 hn4 (fun r hr => (hyok r hr).1)
  have hlen := v_len_str (μ := μ4) (l := (linesL ys).flatten) (by omega)
  have hslt := v_sl_b (μ := μ4) (l := cs) (b := at_) hz
  have htake : cs.take at_ = (linesL ys).flatten := by rw [hcs, h6, List.take_left']; rfl
  rw [htake] at hslt
  have hasc := linesL_asc ys hyok
  have heqs := v_eq_S (neg := false) (μ := μ4) (l := (linesL ys).flatten) (m := (linesL ys).flatten) hasc hasc
  have hare := v_are_records ys μ4 μ.length ht4 (fun r hr => ⟨(hyok r hr).1.fit, (hyok r hr).2⟩) hysq (by omega)
  have hjt := v_journal_text ys μ4 μ.length ht4 (fun r hr => hyok r hr) hysq (by omega)
  have hfin : μ4 = μ ++ ([MO.lst (ys.map Rec.d)] ++ [MO.lst (ys.map Rec.d)] ++ MO.lst ((linesL ys).map fun l => .str (S l)) :: ex ++ [MO.lst (ys.map Rec.d)]) := by rw [e4, e3, e2, e1]; simp
  refine trim0_eq (ex := ([MO.lst (ys.map Rec.d)] ++ [MO.lst (ys.map Rec.d)] ++ MO.lst ((linesL ys).map fun l => .str (S l)) :: ex ++ [MO.lst (ys.map Rec.d)])) ?_
  rw [← hfin]
  clear hfin e4 e3 e2 e1
  have hat : ((at_ : Nat) : Int) = ((linesL ys).flatten.length : Nat) := by rw [h6]
  have e5 : startD N__law_is_right [.loc f, .int ((k : Nat) : Int), .str (S cs)] = [some (.loc f), some (.int ((k : Nat) : Int)), some (.str (S cs)), none, none, none, none, none] := rfl
  unfold ev__law_is_right
  have s1 : evAsg (evCall m_read_journal (evCons (evVar 2) evNil)) (egTup 2 (egCons (egName 3) (egCons (egName 4) egNil))) [some (.loc f), some (.int ((k : Nat) : Int)), some (.str (S cs)), none, none, none, none, none] μ = some (.nx, [some (.loc f), some (.int ((k : Nat) : Int)), some (.str (S cs)), some (.loc μ.length), some (.int ((at_ : Nat) : Int)), none, none, none], μ1) := by
    simp [h1]
  have s2 : evAsg (evMeth "str" dJoin (evC (.str "")) (evCons (evComp (eiEnum (evCons (evSl dSl (evVar 0) evONone (evOSome (evVar 1))) evNil)) (egC2 6 7) evYes (evCall m_record_line (evCons (evVar 6) (evCons (evVar 7) evNil))) [6, 7]) evNil)) (egName 5) [some (.loc f), some (.int ((k : Nat) : Int)), some (.str (S cs)), some (.loc μ.length), some (.int ((at_ : Nat) : Int)), none, none, none] μ1 = some (.nx, [some (.loc f), some (.int ((k : Nat) : Int)), some (.str (S cs)), some (.loc μ.length), some (.int ((at_ : Nat) : Int)), some (.str (S (linesL ys).flatten)), none, none], μ3) := by
    simp [hsl1, hg2, hc, l_em, hj]
  rw [s_runF, if_pos (by rfl), e5, s_evSeq, s1, kSeq_n, s_evSeq, s2, kSeq_n]
  have c1 : evCmp (dEqv false) (evVar 3) (evSl dSl (evVar 0) evONone (evOSome (evVar 1))) [some (.loc f), some (.int ((k : Nat) : Int)), some (.str (S cs)), some (.loc μ.length), some (.int ((at_ : Nat) : Int)), some (.str (S (linesL ys).flatten)), none, none] μ3 = some (.bl true, μ4) := by
    simp [hsl3, heq]
  have c2 : evCmp (dEqv false) (evVar 4) (evCall dLen (evCons (evVar 5) evNil)) [some (.loc f), some (.int ((k : Nat) : Int)), some (.str (S cs)), some (.loc μ.length), some (.int ((at_ : Nat) : Int)), some (.str (S (linesL ys).flatten)), none, none] μ4 = some (.bl true, μ4) := by
    simp [hlen, -List.length_flatten, h6]
  have c3 : evCmp (dEqv false) (evSl dSl (evVar 2) evONone (evOSome (evVar 4))) (evVar 5) [some (.loc f), some (.int ((k : Nat) : Int)), some (.str (S cs)), some (.loc μ.length), some (.int ((at_ : Nat) : Int)), some (.str (S (linesL ys).flatten)), none, none] μ4 = some (.bl true, μ4) := by
    simp [hslt, heqs]
  have c4 : evCmp (dIsN false) (evCall m_are_records (evCons (evVar 3) evNil)) (evC (.bl true)) [some (.loc f), some (.int ((k : Nat) : Int)), some (.str (S cs)), some (.loc μ.length), some (.int ((at_ : Nat) : Int)), some (.str (S (linesL ys).flatten)), none, none] μ4 = some (.bl true, μ4) := by
    simp [hare]
  have c5 : evCmp (dEqv false) (evCall m_journal_text (evCons (evVar 3) evNil)) (evVar 5) [some (.loc f), some (.int ((k : Nat) : Int)), some (.str (S cs)), some (.loc μ.length), some (.int ((at_ : Nat) : Int)), some (.str (S (linesL ys).flatten)), none, none] μ4 = some (.bl true, μ4) := by
    simp [hjt, heqs]
  rw [s_evRet, s_evAnd, c1, kAnd_s, if_pos rfl, s_evAnd, c2, kAnd_s, if_pos rfl, s_evAnd, c3, kAnd_s, if_pos rfl, s_evAnd, c4, kAnd_s, if_pos rfl, c5]
  rfl
end K73
set_option Elab.async false
set_option linter.all false
set_option maxRecDepth 100000
namespace K73
open PySem PySem.Spec PyProof.Rows L2 PDL SX Tel
/-! ### the law: what stands where -/
structure Core (p f l e : Nat) (xs : List Rec) (μ : Store) : Prop where
  pot : Pot μ p
  recs : μ[f]? = some (.lst (xs.map Rec.d))
  lines : μ[l]? = some (.lst ((linesL xs).map fun q => .str (S q)))
  ends : μ[e]? = some (.lst ((endsL (linesL xs) 0).map fun q => .int ((q : Nat) : Int)))
  fp : f ≠ p
  lp : l ≠ p
  ep : e ≠ p
structure Xs (xs : List Rec) : Prop where
  ok : ∀ r ∈ xs, ROk r
  seq : Seq xs
  lo : 3 ≤ xs.length
  hi : xs.length ≤ 30
theorem Core.ext {p f l e : Nat} {xs : List Rec} {μ : Store} (h : Core p f l e xs μ) (ex : Store) : Core p f l e xs (μ ++ ex) := by
  have g : ∀ {i : Nat} {o : MO}, μ[i]? = some o → (μ ++ ex)[i]? = some o := fun q => by rw [List.getElem?_append_left (List.getElem?_eq_some_iff.mp q).1]; exact q
  exact ⟨(Sx.push h.pot ex).pot, g h.recs, g h.lines, g h.ends, h.fp, h.lp, h.ep⟩
theorem Core.sx {p f l e : Nat} {xs : List Rec} {μ μ' : Store} (h : Core p f l e xs μ) (s : Sx p μ μ') : Core p f l e xs μ' := ⟨s.pot, s.get h.recs h.fp, s.get h.lines h.lp, s.get h.ends h.ep, h.fp, h.lp, h.ep⟩
abbrev T (xs : List Rec) : List Nat := (linesL xs).flatten
structure EF (ρ : PDL.Env) (p f l e : Nat) (xs : List Rec) : Prop where
  len : ρ.length = 23
  h1 : ρ[1]? = some (some (.loc p))
  h2 : ρ[2]? = some (some (.loc f))
  h3 : ρ[3]? = some (some (.loc l))
  h4 : ρ[4]? = some (some (.str (S (T xs))))
  h5 : ρ[5]? = some (some (.loc e))
theorem EF.set {ρ : PDL.Env} {p f l e : Nat} {xs : List Rec} (h : EF ρ p f l e xs) (i : Nat) (v : Option D) (hi : 6 ≤ i) : EF (ρ.set i v) p f l e xs :=
  ⟨by rw [List.length_set]; exact h.len, by rw [List.getElem?_set_ne (by omega)]; exact h.h1, by rw [List.getElem?_set_ne (by omega)]; exact h.h2, by rw [List.getElem?_set_ne (by omega)]; exact h.h3, by rw [List.getElem?_set_ne (by omega)]; exact h.h4, by rw [List.getElem?_set_ne (by omega)]; exact h.h5⟩
theorem Xs.small {xs : List Rec} (h : Xs xs) : (T xs).length ≤ 60000 := by
  have h1 := linesL_len xs (fun r hr => (h.ok r hr).1) (by have := h.hi; omega)
  rw [← List.length_flatten] at h1
  have h2 := h.hi
  unfold T
  omega
/-- len([end for end in ends if end <= c]) -/
theorem v_count {ρ : PDL.Env} {p f l e : Nat} {xs : List Rec} {μ : Store} (hE : EF ρ p f l e xs) (hC : Core p f l e xs μ) (hX : Xs xs) (j c : Nat) (hj : ρ[j]? = some (some (.int ((c : Nat) : Int)))) (hjn : j ≠ 22) :
    ∃ ex, evCall dLen (evCons (evComp (eiSeq (evVar 5)) (egC1 22) (evTCmp dLe (evVar 22) (evVar j)) (evVar 22) [22]) evNil) ρ μ = some (.int (((endsL (linesL xs) 0).filter fun q => decide (q ≤ c)).length : Nat), μ ++ ex) := by
  have hel : (endsL (linesL xs) 0).length ≤ 30 := by rw [ends_len, linesL_length]; exact hX.hi
  obtain ⟨ex, h⟩ := comp_list (rd := rdLoc e) (g := egC1 22) (t := evTCmp dLe (evVar 22) (evVar j)) (e := evVar 22) (ρ := ρ.set 22 none) ((endsL (linesL xs) 0).map fun q => .int ((q : Nat) : Int)) μ (fun d => match d with | .int i => decide (i ≤ (c : Int)) | _ => false) (fun d => d)
    (fun i acc ex => by
      have := (hC.ext (.lst acc :: ex)).ends
      unfold rdLoc
      rw [this])
    (by rw [List.length_map, size_eq]; omega)
    (fun i d hd => by
      rw [List.getElem?_map] at hd
      obtain ⟨q, hq, rfl⟩ := map_some hd
      have h22 : ((ρ.set 22 none).set 22 (some (.int ((q : Nat) : Int))))[22]? = some (some (.int ((q : Nat) : Int))) := List.getElem?_set_self (by rw [List.length_set, hE.len]; decide)
      have hjj : ((ρ.set 22 none).set 22 (some (.int ((q : Nat) : Int))))[j]? = some (some (.int ((c : Nat) : Int))) := by
        rw [List.getElem?_set_ne (Ne.symm hjn), List.getElem?_set_ne (Ne.symm hjn)]
        exact hj
      refine ⟨_, rfl, fun acc ex => ⟨by simp only [s_evTCmp, s_evVar, h22, hjj, kVar_s, kTCmp_s, kTCmp2_s, v_le_int, kTl_s], fun _ => ⟨ex, by simp only [s_evVar, h22, kVar_s]⟩⟩⟩)
  have e1 : (((endsL (linesL xs) 0).map fun q => D.int ((q : Nat) : Int)).filter fun d => match d with | .int i => decide (i ≤ (c : Int)) | _ => false) = ((endsL (linesL xs) 0).filter fun q => decide (q ≤ c)).map fun q => D.int ((q : Nat) : Int) := by
    rw [List.filter_map]
    congr 1
    refine List.filter_congr fun q _ => ?_
    simp only [Function.comp]
    by_cases h : q ≤ c
    · rw [decide_eq_true h, decide_eq_true (show (q : Int) ≤ (c : Int) by omega)]
    · rw [decide_eq_false h, decide_eq_false (show ¬ (q : Int) ≤ (c : Int) by omega)]
  rw [e1, List.map_id'] at h
  refine ⟨.lst (((endsL (linesL xs) 0).filter fun q => decide (q ≤ c)).map fun q => D.int ((q : Nat) : Int)) :: ex, ?_⟩
  have hlen := v_len_loc (μ := μ ++ .lst (((endsL (linesL xs) 0).filter fun q => decide (q ≤ c)).map fun q => D.int ((q : Nat) : Int)) :: ex) (n := μ.length) get_last
  rw [List.length_map] at hlen
  simp only [s_evCall, s_evCons, s_evComp, s_eiSeq, s_evVar, hE.h5, kVar_s, kSeqJ_s, hC.ends, kSeqI_s, s_wipe1, s_wipe0, kComp_s, h, Option.map_some, kCons_s, s_evNil, kCons2_s, kCall_s, hlen]
/-- a place: its line -/
theorem place {xs : List Rec} (c : Nat) : ∃ k, k ≤ xs.length ∧ ((endsL (linesL xs) 0).filter fun q => decide (q ≤ c)).length = k ∧ (pre xs k).length ≤ c ∧ (k < xs.length → c < (pre xs (k + 1)).length) := by
  obtain ⟨k, h1, h2, h3, h4⟩ := whole_of (linesL xs) 0 c (linesL_pos xs) (Nat.zero_le _)
  rw [linesL_length] at h1 h4
  exact ⟨k, h1, h2, by unfold pre; omega, fun h => by have := h4 h; unfold pre; omega⟩
theorem T_asc {xs : List Rec} (h : Xs xs) : Asc (T xs) := linesL_asc xs h.ok
theorem pre_take (xs : List Rec) (k : Nat) : pre xs k = (linesL (xs.take k)).flatten := by unfold pre; rw [linesL_take]
/-- the text cut short -/
theorem cut_ok {xs : List Rec} (hX : Xs xs) (c k : Nat) (hk : k ≤ xs.length) (h1 : (pre xs k).length ≤ c) (h2 : k < xs.length → c < (pre xs (k + 1)).length) : ∃ rest, (T xs).take c = (linesL (xs.take k)).flatten ++ rest ∧ Rej (xs.take k) rest := by
  rcases Nat.lt_or_ge k xs.length with hlt | hge
  · have hr : xs[k]? = some xs[k] := List.getElem?_eq_getElem hlt
    obtain ⟨more, hm⟩ := pre_split xs k _ hr
    have h3 := h2 hlt
    rw [pre_succ xs k _ hr, List.length_append] at h3
    refine ⟨(line0 (k : Nat) xs[k]).take (c - (pre xs k).length), ?_, rej_none ?_⟩
    · show (T xs).take c = _
      unfold T
      rw [hm, List.take_append, List.take_of_length_le h1, ← pre_take]
      congr 1
      refine List.take_append_of_le_length ?_
      simp only [line, List.length_append, List.length_singleton] at h3
      omega
    · intro h
      exact (line_no10 (hX.ok _ (List.getElem_mem hlt)).2 10 (List.mem_of_mem_take h)).1 rfl
  · have hke : k = xs.length := by omega
    subst hke
    rw [pre_all] at h1
    refine ⟨[], ?_, rej_none (by simp)⟩
    rw [List.take_of_length_le (Nat.le_refl _), List.append_nil, List.take_of_length_le h1]
/-- is_right over the text cut -/
theorem right_cut {p f l e : Nat} {xs : List Rec} {μ : Store} (hC : Core p f l e xs μ) (hX : Xs xs) (c : Nat) : m__law_is_right [.loc f, .int (((endsL (linesL xs) 0).filter fun q => decide (q ≤ c)).length : Nat), .str (S ((T xs).take c))] μ = some (.bl true, μ) := by
  obtain ⟨k, h1, h2, h3, h4⟩ := place (xs := xs) c
  obtain ⟨rest, h5, h6⟩ := cut_ok hX c k h1 h3 h4
  rw [h2, h5]
  have hs := hX.small
  have hlen : ((linesL (xs.take k)).flatten ++ rest).length ≤ 200000 := by
    rw [← h5, List.length_take]
    omega
  refine v_right xs k rest μ f hC.recs hX.ok hX.seq h1 (by have := hX.hi; omega) ?_ hlen h6
  rw [← h5]
  exact Asc.take (T_asc hX) c
end K73
set_option Elab.async false
set_option linter.all false
set_option maxRecDepth 100000
namespace K73
open PySem PySem.Spec PyProof.Rows L2 PDL SX Tel
theorem spot_at {xs : List Rec} (sp : Nat) (h : sp < (T xs).length) : ∃ w r u a v', xs[w]? = some r ∧ ((endsL (linesL xs) 0).filter fun q => decide (q ≤ sp)).length = w ∧ (pre xs w).length + u.length = sp ∧ T xs = pre xs w ++ (u ++ a :: v') ∧
    ((∃ v more, line0 (w : Nat) r = u ++ a :: v ∧ v' = v ++ 10 :: more) ∨ (a = 10 ∧ line0 (w : Nat) r = u)) := by
  obtain ⟨k, h1, h2, h3, h4⟩ := place (xs := xs) sp
  have hk : k < xs.length := by
    rcases Nat.lt_or_ge k xs.length with q | q
    · exact q
    · have : k = xs.length := by omega
      subst this
      rw [pre_all] at h3
      unfold T at h
      omega
  have hr : xs[k]? = some xs[k] := List.getElem?_eq_getElem hk
  obtain ⟨more, hm⟩ := pre_split xs k _ hr
  have h5 := h4 hk
  rw [pre_succ xs k _ hr, List.length_append] at h5
  simp only [line, List.length_append, List.length_singleton] at h5
  rcases Nat.lt_or_ge (sp - (pre xs k).length) (line0 (k : Nat) xs[k]).length with q | q
  · obtain ⟨u, a, v, e, hu⟩ : ∃ u a v, line0 (k : Nat) xs[k] = u ++ a :: v ∧ u.length = sp - (pre xs k).length :=
      ⟨(line0 (k : Nat) xs[k]).take (sp - (pre xs k).length), (line0 (k : Nat) xs[k])[sp - (pre xs k).length], (line0 (k : Nat) xs[k]).drop (sp - (pre xs k).length + 1), by rw [← List.drop_eq_getElem_cons q, List.take_append_drop], by rw [List.length_take]; omega⟩
    refine ⟨k, xs[k], u, a, v ++ 10 :: more, hr, h2, by omega, ?_, .inl ⟨v, more, e, rfl⟩⟩
    unfold T
    rw [hm, e]
    simp
  · refine ⟨k, xs[k], line0 (k : Nat) xs[k], 10, more, hr, h2, by omega, ?_, .inr ⟨rfl, rfl⟩⟩
    unfold T
    rw [hm]
def signsL : List Nat := tgL "0123456789 abtfunFipc;-X~"
theorem signs_ok : ∀ c ∈ signsL, c < 128 ∧ c ≠ 10 ∧ 0 < c := by decide +kernel
theorem signs_two : 48 ∈ signsL ∧ 49 ∈ signsL ∧ signsL.length = 25 := by decide +kernel
theorem line_small {xs : List Rec} (hX : Xs xs) {w : Nat} {r : Rec} (h : xs[w]? = some r) : (line (w : Nat) r).length ≤ 1700 := by
  have h10 : (10 : Nat) ^ 20 = 100000000000000000000 := by decide
  have := (List.getElem?_eq_some_iff.mp h).1
  have := hX.hi
  exact line_len _ _ (by omega) (hX.ok r (List.mem_of_getElem? h)).1
section
variable {ρ : PDL.Env} {p f l e : Nat} {xs : List Rec} {μ : Store}
theorem T_size (hX : Xs xs) : (T xs).length ≤ sizeLine := by
  have := hX.small
  rw [size_eq]
  omega
/-- sign = pick(pot, [one for one in .. if one != text[spot]]) -/
theorem v_sign (hE : EF ρ p f l e xs) (hC : Core p f l e xs μ) (hX : Xs xs) (sp : Nat) (a : Nat) (h9 : ρ[9]? = some (some (.int ((sp : Nat) : Int)))) (ha : (T xs)[sp]? = some a) :
    ∃ c μ', evCall m__law_pick (evCons (evVar 1) (evCons (evComp (eiStr (evC (.str "0123456789 abtfunFipc;-X~"))) (egC1 17) (evTCmp (dEqv true) (evVar 17) (evBin dIx (evVar 4) (evVar 9))) (evVar 17) [17]) evNil)) ρ μ = some (.str (S [c]), μ') ∧ c ∈ signsL ∧ c ≠ a ∧ Core p f l e xs μ' := by
  have hz := T_size hX
  have haa : a < 128 := T_asc hX a (List.mem_of_getElem? ha)
  have hlit : Str.ofString "0123456789 abtfunFipc;-X~" = S signsL := tgS _
  have hlen : (strs1 (S signsL)).length = 25 := by rw [strs1_S, List.length_map]; exact signs_two.2.2
  obtain ⟨ex, h⟩ := comp_list (rd := rdList (strs1 (S signsL))) (g := egC1 17) (t := evTCmp (dEqv true) (evVar 17) (evBin dIx (evVar 4) (evVar 9))) (e := evVar 17) (ρ := ρ.set 17 none) (strs1 (S signsL)) μ (fun d => !decide (sgnOf d = a)) (fun d => d) (fun _ _ _ => rfl) (by rw [hlen, size_eq]; decide)
    (fun i d hd => by
      obtain ⟨c, hc, rfl⟩ := sgn_get signsL i d hd
      have hcs := signs_ok c (List.mem_of_getElem? hc)
      have h17 : ((ρ.set 17 none).set 17 (some (.str (S [c]))))[17]? = some (some (.str (S [c]))) := List.getElem?_set_self (by rw [List.length_set, hE.len]; decide)
      have h4 : ((ρ.set 17 none).set 17 (some (.str (S [c]))))[4]? = some (some (.str (S (T xs)))) := by
        rw [List.getElem?_set_ne (by decide), List.getElem?_set_ne (by decide)]; exact hE.h4
      have h9' : ((ρ.set 17 none).set 17 (some (.str (S [c]))))[9]? = some (some (.int ((sp : Nat) : Int))) := by
        rw [List.getElem?_set_ne (by decide), List.getElem?_set_ne (by decide)]; exact h9
      have hix := fun μ : Store => v_ix_str (μ := μ) (i := (sp : Int)) hz
      have hq := fun μ : Store => v_eq_S (neg := true) (μ := μ) (asc1 hcs.1) (asc1 haa)
      refine ⟨_, rfl, fun acc ex => ⟨?_, fun _ => ⟨ex, by simp only [s_evVar, h17, kVar_s]⟩⟩⟩
      simp only [s_evTCmp, s_evVar, h17, h4, h9', kVar_s, kTCmp_s, s_evBin, kBin_s, kBin2_s, hix, PDL.atI_nat, ha, Option.map_some, kTCmp2_s, hq, kTl_s, sgnOf_S, if_true]
      by_cases hca : c = a <;> simp [hca])
  rw [List.map_id'] at h
  obtain ⟨F, hF⟩ : ∃ F, F = (strs1 (S signsL)).filter fun d => !decide (sgnOf d = a) := ⟨_, rfl⟩
  rw [← hF] at h
  have hFne : F ≠ [] := by
    rw [hF]
    intro hnil
    rw [List.filter_eq_nil_iff] at hnil
    have m1 : D.str (S [48]) ∈ strs1 (S signsL) := by rw [strs1_S]; exact List.mem_map.mpr ⟨48, signs_two.1, rfl⟩
    have m2 : D.str (S [49]) ∈ strs1 (S signsL) := by rw [strs1_S]; exact List.mem_map.mpr ⟨49, signs_two.2.1, rfl⟩
    have n1 := hnil _ m1
    have n2 := hnil _ m2
    simp only [sgnOf_S] at n1 n2
    by_cases q : 48 = a
    · subst q; simp at n2
    · simp [q] at n1
  have hFl : F.length ≤ 25 := by rw [hF, ← hlen]; exact List.length_filter_le _ _
  have hC2 := hC.ext (.lst F :: ex)
  have hpl := hC.pot.lt
  obtain ⟨x, μ', p1, p2, p3, p4⟩ := v_pick (μ ++ .lst F :: ex) p μ.length F hC2.pot get_last (by omega) hFne (by omega)
  rw [hF] at p2
  obtain ⟨p5, p6⟩ := List.mem_filter.mp p2
  rw [strs1_S] at p5
  obtain ⟨c, hc, rfl⟩ := List.mem_map.mp p5
  have p7 : c ≠ a := fun h => by
    have p8 : (!decide (c = a)) = true := p6
    rw [decide_eq_true h] at p8
    cases p8
  refine ⟨c, μ', ?_, hc, p7, hC2.sx p3⟩
  rw [hlit]
  simp only [s_evCall, s_evCons, s_evComp, s_eiStr, s_evC, kStrI_s, s_wipe1, s_wipe0, kComp_s, h, Option.map_some, s_evVar, hE.h1, kVar_s, kCons_s, s_evNil, kCons2_s, kCall_s, p1]
/-- start -/
theorem v_start (hE : EF ρ p f l e xs) (hC : Core p f l e xs μ) (w : Nat) (hw : w ≤ xs.length) (h11 : ρ[11]? = some (some (.int ((w : Nat) : Int)))) :
    evIf (evTCmp dGt (evVar 11) (evC (.int 0))) (evBin dIx (evVar 5) (evBin dSub (evVar 11) (evC (.int 1)))) (evC (.int 0)) ρ μ = some (.int ((pre xs w).length : Nat), μ) := by
  have hix := fun i => v_ix_loc (i := i) hC.ends
  cases w with
  | zero =>
    have : pre xs 0 = [] := rfl
    simp only [s_evIf, s_evTCmp, s_evVar, h11, kVar_s, kTCmp_s, s_evC, kTCmp2_s, v_gt_int, kTl_s, kIf_s, this]
    simp
  | succ w =>
    have hat : (endsL (linesL xs) 0)[w]? = some (pre xs (w + 1)).length := by
      rw [ends_at _ _ _ (by rw [linesL_length]; omega)]
      unfold pre
      simp
    have hsub : (((w + 1 : Nat) : Int) - 1) = (w : Nat) := by omega
    simp only [s_evIf, s_evTCmp, s_evVar, h11, kVar_s, kTCmp_s, s_evC, kTCmp2_s, v_gt_int, kTl_s, kIf_s, s_evBin, hE.h5, kBin_s, kBin2_s, v_sub_int, hsub, hix, PDL.atI_nat, List.getElem?_map, hat, Option.map_some]
    rw [if_pos (decide_eq_true (by omega))]
theorem P_line10 (n : Int) (r : Rec) : P (line n r) = P (head n r) ++ [showL (sumI (head n r)) ++ [10]] := by
  have e : line n r = head n r ++ 32 :: (showL (sumI (head n r)) ++ [10]) := by simp [line, line0]
  rw [e]
  refine P_snoc _ fun h => ?_
  rcases List.mem_append.mp h with h | h
  · exact (show_free _ 32 h).1 rfl
  · simp at h
/-- blank -/
theorem v_blank (hE : EF ρ p f l e xs) (hC : Core p f l e xs μ) (hX : Xs xs) (w : Nat) (r : Rec) (hr : xs[w]? = some r) (h11 : ρ[11]? = some (some (.int ((w : Nat) : Int)))) (h12 : ρ[12]? = some (some (.int ((pre xs w).length : Nat)))) :
    ∃ ex, evBin dSub (evBin dSub (evBin dAdd (evVar 12) (evCall dLen (evCons (evBin dIx (evVar 3) (evVar 11)) evNil))) (evCall dLen (evCons (evBin dIx (evMeth "str" dSplit (evBin dIx (evVar 3) (evVar 11)) (evCons (evC (.str " ")) evNil)) (evUn dNeg (evC (.int 1)))) evNil))) (evC (.int 1)) ρ μ = some (.int (((pre xs w).length + (head (w : Nat) r).length : Nat) : Int), μ ++ ex) := by
  have hls := line_small hX hr
  have hix := fun i => v_ix_loc (i := i) hC.lines
  have hat : (linesL xs)[w]? = some (line (w : Nat) r) := linesL_at xs w r hr
  have hlen := v_len_str (μ := μ) (l := line (w : Nat) r) (by rw [size_eq]; omega)
  have hsp := v_split (μ := μ) (k := [32]) (l := line (w : Nat) r) (by simp) (by decide) (by rw [size_eq]; omega)
  have hfold : TL.spl [32] 0 [] (line (w : Nat) r) = P (line (w : Nat) r) := rfl
  rw [hfold, P_line10] at hsp
  obtain ⟨μ1, e1⟩ : ∃ μ1, μ1 = μ ++ [MO.lst ((P (head (w : Nat) r) ++ [showL (sumI (head (w : Nat) r)) ++ [10]]).map fun q => .str (S q))] := ⟨_, rfl⟩
  rw [← e1] at hsp
  have hlast : dIx (.loc μ.length) (.int (-1)) μ1 = some (.str (S (showL (sumI (head (w : Nat) r)) ++ [10])), μ1) := by
    rw [v_ix_loc (by rw [e1]; exact get_last), atI_m]
    simp
  have hl2 := showL_len (sumI_abs (head (w : Nat) r))
  have hlen2 := v_len_str (μ := μ1) (l := showL (sumI (head (w : Nat) r)) ++ [10]) (by rw [size_eq, List.length_append]; simp; omega)
  refine ⟨[MO.lst ((P (head (w : Nat) r) ++ [showL (sumI (head (w : Nat) r)) ++ [10]]).map fun q => .str (S q))], ?_⟩
  rw [← e1]
  have hm1 : ∀ μ : Store, dNeg (.int 1) μ = some (.int (-1), μ) := fun _ => rfl
  simp only [s_evBin, s_evVar, h12, h11, kVar_s, s_evCall, s_evCons, hE.h3, kBin_s, kBin2_s, hix, PDL.atI_nat, List.getElem?_map, hat, Option.map_some, kCons_s, s_evNil, kCons2_s, kCall_s, hlen, v_add_int, s_evMeth, kMe_s, isTy_str, if_true, s_evC, l_sp, kMe2_s, hsp, s_evUn, kUn_s, hm1, hlast, hlen2, v_sub_int]
  congr 3
  simp only [line, line0, List.length_append, List.length_cons, List.length_nil]
  omega
end
end K73
set_option Elab.async false
set_option linter.all false
set_option maxRecDepth 100000
namespace K73
open PySem PySem.Spec PyProof.Rows L2 PDL SX Tel
theorem show_pos (i : Int) : ∀ c ∈ showL i, 0 < c := fun c h => by
  rcases showL_signs h with h | h <;> omega
theorem w_pos : ∀ (t : Tel) (c : Nat), c ∈ w t → 0 < c
  | .int i, c, h => by
    simp only [w, List.mem_cons, List.mem_append, List.mem_nil_iff, or_false] at h
    rcases h with h | h | h
    · omega
    · exact show_pos i c h
    · omega
  | .bl true, c, h => by simp [w] at h; omega
  | .bl false, c, h => by simp [w] at h; omega
  | .unit, c, h => by simp [w] at h; omega
  | .nil, c, h => by simp [w] at h; omega
  | .fn, c, h => by simp [w] at h; omega
  | .pair a b, c, h => by
    simp only [w, List.mem_cons, List.mem_append] at h
    rcases h with h | h | h
    · omega
    · exact w_pos a c h
    · exact w_pos b c h
  | .cons a b, c, h => by
    simp only [w, List.mem_cons, List.mem_append] at h
    rcases h with h | h | h
    · omega
    · exact w_pos a c h
    · exact w_pos b c h
theorem tg_pos : ∀ x ∈ [tgL "program", tgL "inputs", tgL "set", tgL "told", tgL "kept"], ∀ c ∈ x, 0 < c := by decide +kernel
theorem inp_pos0 : ∀ c ∈ smallL ++ greatL ++ figL, 0 < c := by decide +kernel
theorem inp_pos {nm : List Nat} (h : isInp nm = true) : ∀ c ∈ nm, 0 < c := fun c hc => by
  unfold isInp hasS at h
  simp only [Bool.and_eq_true] at h
  exact inp_pos0 c (of_decide_eq_true (List.all_eq_true.mp h.2.2.2 c hc))
theorem okc_pos {least : Int} {t : List Nat} (h : isT least t = true) : ∀ c ∈ rp 10 92 t, 0 < c := fun c hc => by
  obtain ⟨x, hx, e⟩ := List.mem_map.mp hc
  unfold isT at h
  simp only [Bool.and_eq_true] at h
  have := List.all_eq_true.mp h.2.2 x hx
  simp [okc] at this
  split at e <;> omega
theorem parts_pos {r : Rec} (hg : r.Good) : ∀ l ∈ r.parts, ∀ c ∈ l, 0 < c := by
  intro l hl c hc
  cases r with
  | prog t =>
    simp only [Rec.parts, List.mem_cons, List.mem_nil_iff, or_false] at hl
    rcases hl with rfl | rfl
    · exact tg_pos _ (by simp) c hc
    · exact okc_pos hg c hc
  | inp t =>
    simp only [Rec.parts, List.mem_cons, List.mem_nil_iff, or_false] at hl
    rcases hl with rfl | rfl
    · exact tg_pos _ (by simp) c hc
    · exact okc_pos hg c hc
  | set nm a b =>
    simp only [Rec.parts, List.mem_cons, List.mem_nil_iff, or_false] at hl
    rcases hl with rfl | rfl | rfl | rfl
    · exact tg_pos _ (by simp) c hc
    · exact inp_pos hg.1 c hc
    · exact w_pos a c hc
    · exact w_pos b c hc
  | told t n =>
    simp only [Rec.parts, List.mem_cons, List.mem_nil_iff, or_false] at hl
    rcases hl with rfl | rfl | rfl
    · exact tg_pos _ (by simp) c hc
    · exact w_pos t c hc
    · exact show_pos n c hc
  | kept m n =>
    simp only [Rec.parts, List.mem_cons, List.mem_nil_iff, or_false] at hl
    rcases hl with rfl | rfl | rfl
    · exact tg_pos _ (by simp) c hc
    · exact show_pos m c hc
    · exact show_pos n c hc
theorem line_pos0 {n : Int} {r : Rec} (hg : r.Good) : ∀ c ∈ line0 n r, 0 < c := by
  intro c hc
  unfold line0 at hc
  rw [head_cons] at hc
  have h : ∀ ls : List (List Nat), (∀ l ∈ ls, ∀ c ∈ l, 0 < c) → ∀ c ∈ TL.joinL [32] ls, 0 < c := by
    intro ls
    induction ls with
    | nil => intro _ c hc; cases hc
    | cons x r ih =>
      intro h c hc
      cases r with
      | nil => exact h x (List.mem_cons_self ..) c hc
      | cons y r =>
        rw [join_cons x (by simp)] at hc
        rcases List.mem_append.mp hc with hc | hc
        · exact h x (List.mem_cons_self ..) c hc
        · rcases List.mem_cons.mp hc with rfl | hc
          · omega
          · exact ih (fun l hl => h l (List.mem_cons_of_mem _ hl)) c hc
  rcases List.mem_append.mp hc with hc | hc
  · rcases List.mem_append.mp hc with hc | hc
    · exact show_pos n c hc
    · rcases List.mem_cons.mp hc with rfl | hc
      · omega
      · exact h r.parts (parts_pos hg) c hc
  · rcases List.mem_cons.mp hc with rfl | hc
    · omega
    · exact show_pos _ c hc
/-- a place in the text -/
structure Spot (xs : List Rec) (sp w : Nat) (r : Rec) (u : List Nat) (a : Nat) (v' : List Nat) : Prop where
  at_ : xs[w]? = some r
  len : (pre xs w).length + u.length = sp
  eq : T xs = pre xs w ++ (u ++ a :: v')
  line : (∃ v more, line0 (w : Nat) r = u ++ a :: v ∧ v' = v ++ 10 :: more) ∨ (a = 10 ∧ line0 (w : Nat) r = u)
section
variable {xs : List Rec} {sp w : Nat} {r : Rec} {u v' : List Nat} {a : Nat}
theorem Spot.take (h : Spot xs sp w r u a v') : (T xs).take sp = pre xs w ++ u := by
  rw [h.eq, ← h.len, ← List.append_assoc, List.take_left']
  simp
theorem Spot.drop (h : Spot xs sp w r u a v') : (T xs).drop sp = a :: v' := by
  rw [h.eq, ← h.len, ← List.append_assoc, List.drop_left']
  simp
theorem Spot.drop1 (h : Spot xs sp w r u a v') : (T xs).drop (sp + 1) = v' := by
  rw [← List.drop_drop, h.drop]
  rfl
theorem Spot.sign (h : Spot xs sp w r u a v') : (T xs)[sp]? = some a := by
  have := congrArg List.head? h.drop
  rw [List.head?_drop] at this
  exact this
theorem Spot.wlt (h : Spot xs sp w r u a v') : w < xs.length := (List.getElem?_eq_some_iff.mp h.at_).1
theorem Spot.asc (h : Spot xs sp w r u a v') (hX : Xs xs) : Asc (pre xs w ++ u) ∧ a < 128 ∧ Asc v' := by
  have ha := T_asc hX
  rw [h.eq] at ha
  exact ⟨fun c hc => ha c (by
      rcases List.mem_append.mp hc with hc | hc
      · exact List.mem_append_left _ hc
      · exact List.mem_append_right _ (List.mem_append_left _ hc)), ha a (by simp), fun c hc => ha c (by simp [hc])⟩
theorem Spot.size (h : Spot xs sp w r u a v') (hX : Xs xs) : (pre xs w).length + u.length + v'.length + 1 ≤ 100000 := by
  have := hX.small
  rw [h.eq] at this
  simp only [List.length_append, List.length_cons] at this
  omega
/-- the spoilt line is refused -/
theorem Spot.rej (h : Spot xs sp w r u a v') (hX : Xs xs) {c : Nat} (hc : c < 128) (hc10 : c ≠ 10) (hca : c ≠ a) (h10 : a ≠ 10) (hb : sp ≠ (pre xs w).length + (head (w : Nat) r).length) (h32 : sp < (pre xs w).length + (head (w : Nat) r).length ∨ c ≠ 32) : Rej (xs.take w) (u ++ c :: v') := by
  have hg := (hX.ok r (List.mem_of_getElem? h.at_)).2
  rcases h.line with ⟨v, more, e1, e2⟩ | ⟨e, _⟩
  · have hl := h.len
    have hwl := h.wlt
    have hno := spoil hg e1 (by omega) c hc hca (by rcases h32 with z | z; exact .inl (by omega); exact .inr z)
    rw [e2]
    have e3 : u ++ c :: (v ++ 10 :: more) = (u ++ c :: v) ++ 10 :: more := by simp
    rw [e3]
    have hlen : (xs.take w).length = w := by rw [List.length_take]; omega
    refine rej_line ?_ (by rw [hlen]; exact hno)
    intro hm
    have hall := fun x hx => (line_no10 hg (n := (w : Nat)) x hx).1
    rw [e1] at hall
    rcases List.mem_append.mp hm with hm | hm
    · exact hall 10 (List.mem_append_left _ hm) rfl
    · rcases List.mem_cons.mp hm with hm | hm
      · exact hc10 hm.symm
      · exact hall 10 (List.mem_append_right _ (List.mem_cons_of_mem _ hm)) rfl
  · exact absurd e h10
theorem Spot.rej_drop (h : Spot xs sp w r u a v') (hX : Xs xs) (h10 : a ≠ 10) (hb : sp ≠ (pre xs w).length + (head (w : Nat) r).length) : Rej (xs.take w) (u ++ v') := by
  have hg := (hX.ok r (List.mem_of_getElem? h.at_)).2
  rcases h.line with ⟨v, more, e1, e2⟩ | ⟨e, _⟩
  · have hl := h.len
    have hwl := h.wlt
    have h0 : 0 < a := by
      have hall := line_pos0 hg (n := (w : Nat))
      rw [e1] at hall
      exact hall a (by simp)
    have hno := spoil_drop hg e1 (by omega) h0
    rw [e2]
    have e3 : u ++ (v ++ 10 :: more) = (u ++ v) ++ 10 :: more := by simp
    rw [e3]
    have hlen : (xs.take w).length = w := by rw [List.length_take]; omega
    refine rej_line ?_ (by rw [hlen]; exact hno)
    intro hm
    have hall := fun x hx => (line_no10 hg (n := (w : Nat)) x hx).1
    rw [e1] at hall
    rcases List.mem_append.mp hm with hm | hm
    · exact hall 10 (List.mem_append_left _ hm) rfl
    · exact hall 10 (List.mem_append_right _ (List.mem_cons_of_mem _ hm)) rfl
  · exact absurd e h10
end
section
variable {ρ : PDL.Env} {p f l e : Nat} {xs : List Rec} {μ : Store} {sp w : Nat} {r : Rec} {u v' : List Nat} {a c : Nat}
theorem txt_l (hS : Spot xs sp w r u a v') (hX : Xs xs) (μ : Store) : dSl (.str (S (T xs))) none (some ((sp : Nat) : Int)) μ = some (.str (S (pre xs w ++ u)), μ) := by
  rw [v_sl_b (T_size hX), hS.take]
theorem txt_r (hS : Spot xs sp w r u a v') (hX : Xs xs) (μ : Store) : dSl (.str (S (T xs))) (some ((sp : Nat) : Int)) none μ = some (.str (S (a :: v')), μ) := by
  rw [v_sl_a (T_size hX), hS.drop]
theorem txt_r1 (hS : Spot xs sp w r u a v') (hX : Xs xs) (μ : Store) : dSl (.str (S (T xs))) (some (((sp : Nat) : Int) + 1)) none μ = some (.str (S v'), μ) := by
  have := v_sl_a (μ := μ) (a := sp + 1) (T_size hX)
  rw [hS.drop1] at this
  exact this
/-- reading over an intact beginning -/
theorem read_w (hX : Xs xs) (hw : w ≤ xs.length) (rest : List Nat) (hr : Asc rest) (hl : rest.length ≤ 100001) (μ : Store) : ∃ more at_, m_read_journal [.str (S (pre xs w ++ rest))] μ = some (.tup [.loc μ.length, .int ((at_ : Nat) : Int)], μ ++ [.lst ((xs.take w ++ more).map Rec.d)]) ∧ (∀ r ∈ more, r.Fit) ∧ (Rej (xs.take w) rest → more = []) := by
  have hs := hX.small
  have hp : (pre xs w).length ≤ (T xs).length := by
    have h := List.take_append_drop w (linesL xs)
    have h2 := congrArg List.flatten h
    rw [List.flatten_append] at h2
    have h3 := congrArg List.length h2
    rw [List.length_append] at h3
    unfold pre T
    omega
  have hpa : Asc (pre xs w) := by
    rw [pre_take]
    exact linesL_asc _ fun r hr => hX.ok r (List.mem_of_mem_take hr)
  rw [pre_take] at hp hpa ⊢
  obtain ⟨more, at_, h1, h2, _, h4⟩ := v_read (xs.take w) rest μ (fun r hr => hX.ok r (List.mem_of_mem_take hr)) (seq_take hX.seq w) (by
    intro c hc
    rcases List.mem_append.mp hc with hc | hc
    · exact hpa c hc
    · exact hr c hc) (by rw [List.length_append]; omega)
  exact ⟨more, at_, h1, h2, fun h => (h4 h).1⟩
/-- told[:whole] != records[:whole] -/
noncomputable def ev_ne : EvT := evTCmp (dEqv true) (evSl dSl (evVar 14) evONone (evOSome (evVar 11))) (evSl dSl (evVar 2) evONone (evOSome (evVar 11)))
theorem v_ne (hE : EF ρ p f l e xs) (hC : Core p f l e xs μ) (hX : Xs xs) (hw : w ≤ xs.length) (t : Nat) (more : List Rec) (h14 : ρ[14]? = some (some (.loc t))) (h11 : ρ[11]? = some (some (.int ((w : Nat) : Int)))) (ht : μ[t]? = some (.lst ((xs.take w ++ more).map Rec.d))) :
    ∃ ex, ev_ne ρ μ = some (false, μ ++ ex) := by
  have h1 := v_sl_loc (lo := none) (hi := some ((w : Nat) : Int)) ht
  have hlen : (xs.take w).length = w := by rw [List.length_take]; omega
  rw [cutD_b, ← List.map_take, List.take_left' hlen] at h1
  obtain ⟨μ1, e1⟩ : ∃ μ1, μ1 = μ ++ [MO.lst ((xs.take w).map Rec.d)] := ⟨_, rfl⟩
  rw [← e1] at h1
  have hC1 : Core p f l e xs μ1 := by rw [e1]; exact hC.ext _
  have h2 := v_sl_loc (lo := none) (hi := some ((w : Nat) : Int)) hC1.recs
  rw [cutD_b, ← List.map_take] at h2
  obtain ⟨μ2, e2⟩ : ∃ μ2, μ2 = μ1 ++ [MO.lst ((xs.take w).map Rec.d)] := ⟨_, rfl⟩
  rw [← e2] at h2
  have g1 : μ2[μ.length]? = some (.lst ((xs.take w).map Rec.d)) := by
    rw [e2, List.getElem?_append_left (by rw [e1]; simp), e1]
    exact get_last
  have g2 : μ2[μ1.length]? = some (.lst ((xs.take w).map Rec.d)) := by rw [e2]; exact get_last
  have h3 := v_eqR (neg := true) g1 g2 fun r hr => (hX.ok r (List.mem_of_mem_take hr)).1
  refine ⟨[MO.lst ((xs.take w).map Rec.d), MO.lst ((xs.take w).map Rec.d)], ?_⟩
  have e3 : μ ++ [MO.lst ((xs.take w).map Rec.d), MO.lst ((xs.take w).map Rec.d)] = μ2 := by rw [e2, e1]; simp
  rw [e3]
  unfold ev_ne
  simp only [s_evTCmp, s_evSl, s_evVar, h14, h11, hE.h2, kVar_s, kSl_s, kSl2_s, kSl3_s, s_evONone, s_evOSome, kOSome_s, h1, h2, kTCmp_s, kTCmp2_s, h3, kTl_s]
  rfl
noncomputable def ev_c8 : EvT := evAndT (evTCmp (dEqv true) (evBin dIx (evVar 4) (evVar 9)) (evC (.str "\n"))) (evAndT (evTCmp (dEqv true) (evVar 9) (evVar 13)) (evAndT (evOrT (evTCmp dLt (evVar 9) (evVar 13)) (evTCmp (dEqv true) (evVar 10) (evC (.str " ")))) (evNotT (evTest (evCall m__law_is_right (evCons (evVar 2) (evCons (evVar 11) (evCons (evBin dAdd (evBin dAdd (evSl dSl (evVar 4) evONone (evOSome (evVar 9))) (evVar 10)) (evSl dSl (evVar 4) (evOSome (evBin dAdd (evVar 9) (evC (.int 1)))) evONone)) evNil))))))))
theorem v_c8 (hE : EF ρ p f l e xs) (hC : Core p f l e xs μ) (hX : Xs xs) (hS : Spot xs sp w r u a v') (hc : c < 128 ∧ c ≠ 10 ∧ 0 < c) (hca : c ≠ a)
    (h9 : ρ[9]? = some (some (.int ((sp : Nat) : Int)))) (h10 : ρ[10]? = some (some (.str (S [c])))) (h11 : ρ[11]? = some (some (.int ((w : Nat) : Int)))) (h13 : ρ[13]? = some (some (.int (((pre xs w).length + (head (w : Nat) r).length : Nat) : Int)))) : ev_c8 ρ μ = some (false, μ) := by
  obtain ⟨s1, s2, s3⟩ := hS.asc hX
  have hsz := hS.size hX
  have hix := fun μ : Store => v_ix_str (μ := μ) (i := ((sp : Nat) : Int)) (T_size hX)
  have q1 := fun μ : Store => v_eq_S (neg := true) (μ := μ) (asc1 s2) (asc1 (c := 10) (by decide))
  have q2 := fun μ : Store => v_eq_S (neg := true) (μ := μ) (asc1 hc.1) (asc1 (c := 32) (by decide))
  have a1 := fun μ : Store => v_add_str (μ := μ) (l := pre xs w ++ u) (m := [c]) (by rw [size_eq, List.length_append]; simp; omega)
  have a2 := fun μ : Store => v_add_str (μ := μ) (l := pre xs w ++ u ++ [c]) (m := v') (by rw [size_eq]; simp; omega)
  obtain ⟨bl, hbl⟩ : ∃ bl : Nat, bl = (pre xs w).length + (head (w : Nat) r).length := ⟨_, rfl⟩
  rw [← hbl] at h13
  unfold ev_c8
  simp only [l_nl, l_sp]
  by_cases k1 : a = 10
  · subst k1
    simp only [s_evAndT, s_evTCmp, s_evBin, s_evVar, hE.h4, h9, kVar_s, kBin_s, kBin2_s, hix, PDL.atI_nat, hS.sign, Option.map_some, kTCmp_s, s_evC, kTCmp2_s, q1, if_true, decide_true, Bool.not_true, kTl_s, kAndT_s, Bool.false_eq_true, if_false]
  · have q1' : ∀ μ : Store, dEqv true (.str (S [a])) (.str (S [10])) μ = some true := fun μ => by
      rw [q1]
      simp [k1]
    by_cases k2 : sp = bl
    · have e2 : ∀ μ : Store, dEqv true (.int ((sp : Nat) : Int)) (.int ((bl : Nat) : Int)) μ = some false := fun μ => by rw [PDL.v_eq_int, k2]; simp
      simp only [s_evAndT, s_evTCmp, s_evBin, s_evVar, hE.h4, h9, h13, kVar_s, kBin_s, kBin2_s, hix, PDL.atI_nat, hS.sign, Option.map_some, kTCmp_s, s_evC, kTCmp2_s, q1', if_true, kTl_s, kAndT_s, e2, Bool.false_eq_true, if_false]
    · have e2 : ∀ μ : Store, dEqv true (.int ((sp : Nat) : Int)) (.int ((bl : Nat) : Int)) μ = some true := fun μ => by
        rw [PDL.v_eq_int]
        simp
        omega
      by_cases k3 : sp < bl ∨ c ≠ 32
      · have hrej := hS.rej hX hc.1 hc.2.1 hca k1 (by omega) (by rw [← hbl]; exact k3)
        have htxt : pre xs w ++ u ++ [c] ++ v' = (linesL (xs.take w)).flatten ++ (u ++ c :: v') := by rw [← pre_take]; simp
        have hasc : Asc ((linesL (xs.take w)).flatten ++ (u ++ c :: v')) := by
          rw [← htxt]
          intro x hx
          rcases List.mem_append.mp hx with hx | hx
          · rcases List.mem_append.mp hx with hx | hx
            · exact s1 x hx
            · rw [List.mem_singleton.mp hx]; exact hc.1
          · exact s3 x hx
        have hlen : ((linesL (xs.take w)).flatten ++ (u ++ c :: v')).length ≤ 200000 := by
          rw [← htxt]
          simp
          omega
        have hr := v_right xs w (u ++ c :: v') μ f hC.recs hX.ok hX.seq (Nat.le_of_lt hS.wlt) (by have := hX.hi; omega) hasc hlen hrej
        rw [← htxt] at hr
        have e3 : evOrT (evTCmp dLt (evVar 9) (evVar 13)) (evTCmp (dEqv true) (evVar 10) (evC (.str (S [32])))) ρ μ = some (true, μ) := by
          simp only [s_evOrT, s_evTCmp, s_evVar, h9, h13, h10, kVar_s, kTCmp_s, kTCmp2_s, v_lt_int, kTl_s, kOrT_s, s_evC, q2, if_true]
          by_cases k4 : sp < bl
          · rw [if_pos (decide_eq_true (by omega))]
          · have : c ≠ 32 := k3.resolve_left k4
            rw [if_neg (by simp; omega)]
            simp [this]
        simp only [s_evAndT, s_evTCmp, s_evBin, s_evVar, hE.h4, h9, h13, kVar_s, kBin_s, kBin2_s, hix, PDL.atI_nat, hS.sign, Option.map_some, kTCmp_s, s_evC, kTCmp2_s, q1', if_true, kTl_s, kAndT_s, e2]
        rw [e3]
        simp only [kAndT_s, if_true, s_evNotT, s_evTest, s_evCall, s_evCons, s_evVar, hE.h2, h11, h10, hE.h4, h9, kVar_s, kCons_s, s_evBin, s_evSl, kSl_s, kSl2_s, kSl3_s, s_evONone, s_evOSome, kOSome_s, txt_l hS hX, kBin_s, kBin2_s, a1, s_evC, v_add_int, txt_r1 hS hX, a2, s_evNil, kCons2_s, kCall_s, hr, kTest_s, kNotT_s, Bool.not_true]
      · have k4 : ¬ sp < bl := fun h => k3 (.inl h)
        have k5 : c = 32 := by
          by_cases h : c = 32
          · exact h
          · exact absurd (.inr h) k3
        have e3 : evOrT (evTCmp dLt (evVar 9) (evVar 13)) (evTCmp (dEqv true) (evVar 10) (evC (.str (S [32])))) ρ μ = some (false, μ) := by
          simp only [s_evOrT, s_evTCmp, s_evVar, h9, h13, h10, kVar_s, kTCmp_s, kTCmp2_s, v_lt_int, kTl_s, kOrT_s, s_evC, q2, if_true]
          rw [if_neg (by simp; omega)]
          simp [k5]
        simp only [s_evAndT, s_evTCmp, s_evBin, s_evVar, hE.h4, h9, h13, kVar_s, kBin_s, kBin2_s, hix, PDL.atI_nat, hS.sign, Option.map_some, kTCmp_s, s_evC, kTCmp2_s, q1', if_true, kTl_s, kAndT_s, e2]
        rw [e3]
        simp only [kAndT_s, Bool.false_eq_true, if_false]
end
end K73
set_option Elab.async false
set_option linter.all false
set_option maxRecDepth 100000
namespace K73
open PySem PySem.Spec PyProof.Rows L2 PDL SX Tel
section
variable {ρ : PDL.Env} {p f l e : Nat} {xs : List Rec} {μ : Store} {sp w : Nat} {r : Rec} {u v' : List Nat} {a c : Nat}
noncomputable def ev_r9 : Ev := evCall m_read_journal (evCons (evBin dAdd (evSl dSl (evVar 4) evONone (evOSome (evVar 9))) (evSl dSl (evVar 4) (evOSome (evBin dAdd (evVar 9) (evC (.int 1)))) evONone)) evNil)
noncomputable def ev_r11 : Ev := evCall m_read_journal (evCons (evBin dAdd (evBin dAdd (evSl dSl (evVar 4) evONone (evOSome (evVar 9))) (evVar 10)) (evSl dSl (evVar 4) (evOSome (evVar 9)) evONone)) evNil)
theorem v_r9 (hE : EF ρ p f l e xs) (hX : Xs xs) (hS : Spot xs sp w r u a v') (h9 : ρ[9]? = some (some (.int ((sp : Nat) : Int)))) :
    ∃ more at_, ev_r9 ρ μ = some (.tup [.loc μ.length, .int ((at_ : Nat) : Int)], μ ++ [.lst ((xs.take w ++ more).map Rec.d)]) ∧ (∀ r ∈ more, r.Fit) ∧ (a ≠ 10 → sp ≠ (pre xs w).length + (head (w : Nat) r).length → more = []) := by
  obtain ⟨s1, s2, s3⟩ := hS.asc hX
  have hsz := hS.size hX
  have a2 := fun μ : Store => v_add_str (μ := μ) (l := pre xs w ++ u) (m := v') (by rw [size_eq]; simp; omega)
  have hasc : Asc (u ++ v') := fun x hx => by
    rcases List.mem_append.mp hx with hx | hx
    · exact s1 x (List.mem_append_right _ hx)
    · exact s3 x hx
  obtain ⟨more, at_, h1, h2, h3⟩ := read_w hX (Nat.le_of_lt hS.wlt) (u ++ v') hasc (by simp; omega) μ
  refine ⟨more, at_, ?_, h2, fun k1 k2 => h3 (hS.rej_drop hX k1 k2)⟩
  rw [← List.append_assoc] at h1
  unfold ev_r9
  simp only [s_evCall, s_evCons, s_evBin, s_evSl, s_evVar, hE.h4, h9, kVar_s, kSl_s, kSl2_s, kSl3_s, s_evONone, s_evOSome, kOSome_s, txt_l hS hX, kBin_s, kBin2_s, s_evC, v_add_int, txt_r1 hS hX, a2, kCons_s, s_evNil, kCons2_s, kCall_s, h1]
theorem v_r11 (hE : EF ρ p f l e xs) (hX : Xs xs) (hS : Spot xs sp w r u a v') (hc : c < 128) (h9 : ρ[9]? = some (some (.int ((sp : Nat) : Int)))) (h10 : ρ[10]? = some (some (.str (S [c])))) :
    ∃ more at_, ev_r11 ρ μ = some (.tup [.loc μ.length, .int ((at_ : Nat) : Int)], μ ++ [.lst ((xs.take w ++ more).map Rec.d)]) ∧ (∀ r ∈ more, r.Fit) := by
  obtain ⟨s1, s2, s3⟩ := hS.asc hX
  have hsz := hS.size hX
  have a1 := fun μ : Store => v_add_str (μ := μ) (l := pre xs w ++ u) (m := [c]) (by rw [size_eq, List.length_append]; simp; omega)
  have a2 := fun μ : Store => v_add_str (μ := μ) (l := pre xs w ++ u ++ [c]) (m := a :: v') (by rw [size_eq]; simp; omega)
  have hasc : Asc (u ++ c :: a :: v') := fun x hx => by
    rcases List.mem_append.mp hx with hx | hx
    · exact s1 x (List.mem_append_right _ hx)
    · rcases List.mem_cons.mp hx with rfl | hx
      · exact hc
      · rcases List.mem_cons.mp hx with rfl | hx
        · exact s2
        · exact s3 x hx
  obtain ⟨more, at_, h1, h2, h3⟩ := read_w hX (Nat.le_of_lt hS.wlt) (u ++ c :: a :: v') hasc (by simp; omega) μ
  refine ⟨more, at_, ?_, h2⟩
  have e1 : pre xs w ++ (u ++ c :: a :: v') = pre xs w ++ u ++ [c] ++ a :: v' := by simp
  rw [e1] at h1
  unfold ev_r11
  simp only [s_evCall, s_evCons, s_evBin, s_evSl, s_evVar, hE.h4, h9, h10, kVar_s, kSl_s, kSl2_s, kSl3_s, s_evONone, s_evOSome, kOSome_s, txt_l hS hX, kBin_s, kBin2_s, a1, txt_r hS hX, a2, kCons_s, s_evNil, kCons2_s, kCall_s, h1]
noncomputable def ev_c10 : EvT := evOrT ev_ne (evAndT (evTCmp (dEqv true) (evBin dIx (evVar 4) (evVar 9)) (evC (.str "\n"))) (evAndT (evTCmp (dEqv true) (evVar 9) (evVar 13)) (evTCmp dGt (evCall dLen (evCons (evVar 14) evNil)) (evVar 11))))
theorem v_c10 (hE : EF ρ p f l e xs) (hC : Core p f l e xs μ) (hX : Xs xs) (hS : Spot xs sp w r u a v') (t : Nat) (more : List Rec)
    (hmore : a ≠ 10 → sp ≠ (pre xs w).length + (head (w : Nat) r).length → more = [])
    (h9 : ρ[9]? = some (some (.int ((sp : Nat) : Int)))) (h11 : ρ[11]? = some (some (.int ((w : Nat) : Int)))) (h13 : ρ[13]? = some (some (.int (((pre xs w).length + (head (w : Nat) r).length : Nat) : Int)))) (h14 : ρ[14]? = some (some (.loc t))) (ht : μ[t]? = some (.lst ((xs.take w ++ more).map Rec.d))) :
    ∃ ex, ev_c10 ρ μ = some (false, μ ++ ex) := by
  obtain ⟨ex, hne⟩ := v_ne hE hC hX (Nat.le_of_lt hS.wlt) t more h14 h11 ht
  refine ⟨ex, ?_⟩
  obtain ⟨s1, s2, s3⟩ := hS.asc hX
  have hix := fun μ : Store => v_ix_str (μ := μ) (i := ((sp : Nat) : Int)) (T_size hX)
  have q1 := fun μ : Store => v_eq_S (neg := true) (μ := μ) (asc1 s2) (asc1 (c := 10) (by decide))
  obtain ⟨bl, hbl⟩ : ∃ bl : Nat, bl = (pre xs w).length + (head (w : Nat) r).length := ⟨_, rfl⟩
  rw [← hbl] at h13 hmore
  have ht2 : (μ ++ ex)[t]? = some (.lst ((xs.take w ++ more).map Rec.d)) := by rw [List.getElem?_append_left (List.getElem?_eq_some_iff.mp ht).1]; exact ht
  unfold ev_c10
  rw [s_evOrT, hne, kOrT_s, if_neg (by decide)]
  simp only [l_nl]
  by_cases k1 : a = 10
  · subst k1
    simp only [s_evAndT, s_evTCmp, s_evBin, s_evVar, hE.h4, h9, kVar_s, kBin_s, kBin2_s, hix, PDL.atI_nat, hS.sign, Option.map_some, kTCmp_s, s_evC, kTCmp2_s, q1, if_true, decide_true, Bool.not_true, kTl_s, kAndT_s, Bool.false_eq_true, if_false]
  · have q1' : ∀ μ : Store, dEqv true (.str (S [a])) (.str (S [10])) μ = some true := fun μ => by
      rw [q1]
      simp [k1]
    by_cases k2 : sp = bl
    · have e2 : ∀ μ : Store, dEqv true (.int ((sp : Nat) : Int)) (.int ((bl : Nat) : Int)) μ = some false := fun μ => by rw [PDL.v_eq_int, k2]; simp
      simp only [s_evAndT, s_evTCmp, s_evBin, s_evVar, hE.h4, h9, h13, kVar_s, kBin_s, kBin2_s, hix, PDL.atI_nat, hS.sign, Option.map_some, kTCmp_s, s_evC, kTCmp2_s, q1', if_true, kTl_s, kAndT_s, e2, Bool.false_eq_true, if_false]
    · have e2 : ∀ μ : Store, dEqv true (.int ((sp : Nat) : Int)) (.int ((bl : Nat) : Int)) μ = some true := fun μ => by
        rw [PDL.v_eq_int]
        simp
        omega
      have hm := hmore k1 k2
      subst hm
      have hlen := v_len_loc ht2
      have hl2 : ((xs.take w ++ ([] : List Rec)).map Rec.d).length = w := by
        have := hS.wlt
        simp
        omega
      rw [hl2] at hlen
      simp only [s_evAndT, s_evTCmp, s_evBin, s_evVar, hE.h4, h9, h13, h14, h11, kVar_s, kBin_s, kBin2_s, hix, PDL.atI_nat, hS.sign, Option.map_some, kTCmp_s, s_evC, kTCmp2_s, q1', if_true, kTl_s, kAndT_s, e2, s_evCall, s_evCons, kCons_s, s_evNil, kCons2_s, kCall_s, hlen, v_gt_int]
      simp
noncomputable def ev_cnt (j : Nat) : Ev := evCall dLen (evCons (evComp (eiSeq (evVar 5)) (egC1 22) (evTCmp dLe (evVar 22) (evVar j)) (evVar 22) [22]) evNil)
noncomputable def ev_turn : EvS := (evSeq (evAsg (evCall m__law_draw (evCons (evVar 1) (evCons (evBin dAdd (evCall dLen (evCons (evVar 4) evNil)) (evC (.int 1))) evNil))) (egName 8))
  (evSeq (evIfS (evNotT (evTest (evCall m__law_is_right (evCons (evVar 2) (evCons (ev_cnt 8) (evCons (evSl dSl (evVar 4) evONone (evOSome (evVar 8))) evNil))))))
  (evRet (evC (.bl false)))
  evNx)
  (evSeq (evAsg (evCall m__law_draw (evCons (evVar 1) (evCons (evCall dLen (evCons (evVar 4) evNil)) evNil))) (egName 9))
  (evSeq (evAsg (evCall m__law_pick (evCons (evVar 1) (evCons (evComp (eiStr (evC (.str "0123456789 abtfunFipc;-X~"))) (egC1 17) (evTCmp (dEqv true) (evVar 17) (evBin dIx (evVar 4) (evVar 9))) (evVar 17) [17]) evNil))) (egName 10))
  (evSeq (evAsg (ev_cnt 9) (egName 11))
  (evSeq (evAsg (evIf (evTCmp dGt (evVar 11) (evC (.int 0))) (evBin dIx (evVar 5) (evBin dSub (evVar 11) (evC (.int 1)))) (evC (.int 0))) (egName 12))
  (evSeq (evAsg (evBin dSub (evBin dSub (evBin dAdd (evVar 12) (evCall dLen (evCons (evBin dIx (evVar 3) (evVar 11)) evNil))) (evCall dLen (evCons (evBin dIx (evMeth "str" dSplit (evBin dIx (evVar 3) (evVar 11)) (evCons (evC (.str " ")) evNil)) (evUn dNeg (evC (.int 1)))) evNil))) (evC (.int 1))) (egName 13))
  (evSeq (evIfS ev_c8
  (evRet (evC (.bl false)))
  evNx)
  (evSeq (evAsg ev_r9 (egTup 2 (egCons (egName 14) (egCons (egName 15) egNil))))
  (evSeq (evIfS ev_c10
  (evRet (evC (.bl false)))
  evNx)
  (evSeq (evAsg ev_r11 (egTup 2 (egCons (egName 14) (egCons (egName 15) egNil))))
  (evIfS ev_ne
  (evRet (evC (.bl false)))
  evNx))))))))))))
theorem look_same {ρ : PDL.Env} {i : Nat} {v : Option D} (h : i < ρ.length) : (ρ.set i v)[i]? = some v := List.getElem?_set_self h
theorem look_ne {ρ : PDL.Env} {i j : Nat} {v o : Option D} (h : ρ[j]? = some o) (hij : i ≠ j) : (ρ.set i v)[j]? = some o := by rw [List.getElem?_set_ne hij]; exact h
theorem v_turn (hE : EF ρ p f l e xs) (hC : Core p f l e xs μ) (hX : Xs xs) : ∃ ρ' μ', ev_turn ρ μ = some (.nx, ρ', μ') ∧ EF ρ' p f l e xs ∧ Core p f l e xs μ' := by
  have hsm := hX.small
  have hz := T_size hX
  have hTpos : 0 < (T xs).length := by
    have h1 := hX.lo
    have h2 : xs[0]? = some xs[0] := List.getElem?_eq_getElem (by omega)
    obtain ⟨more, hm⟩ := pre_split xs 0 _ h2
    have h3 := congrArg List.length hm
    simp only [List.length_append, List.length_cons] at h3
    unfold T
    omega
  have hlen := fun μ : Store => v_len_str (μ := μ) (l := T xs) hz
  -- cut
  obtain ⟨c0, μ1, d1, d2, d3, d4, d5⟩ := v_draw μ p ((T xs).length + 1) hC.pot (by omega) (by omega)
  obtain ⟨cut, rfl⟩ := Int.eq_ofNat_of_zero_le d2
  have hC1 := hC.sx d4
  have b1 : evAsg (evCall m__law_draw (evCons (evVar 1) (evCons (evBin dAdd (evCall dLen (evCons (evVar 4) evNil)) (evC (.int 1))) evNil))) (egName 8) ρ μ = some (.nx, ρ.set 8 (some (.int ((cut : Nat) : Int))), μ1) := by
    simp only [s_evAsg, s_evCall, s_evCons, s_evVar, hE.h1, hE.h4, kVar_s, kCons_s, s_evBin, s_evNil, kCons2_s, kCall_s, hlen, kBin_s, s_evC, kBin2_s, v_add_int, d1, kAsg_s, s_egName, kAsg2_s]
  have hE1 := hE.set 8 (some (.int ((cut : Nat) : Int))) (by decide)
  have l8 : (ρ.set 8 (some (.int ((cut : Nat) : Int))))[8]? = some (some (.int ((cut : Nat) : Int))) := look_same (by rw [hE.len]; decide)
  obtain ⟨ex1, hcnt1⟩ := v_count hE1 hC1 hX 8 cut l8 (by decide)
  have hC2 := hC1.ext ex1
  have hr1 := right_cut hC2 hX cut
  have b2 : evIfS (evNotT (evTest (evCall m__law_is_right (evCons (evVar 2) (evCons (ev_cnt 8) (evCons (evSl dSl (evVar 4) evONone (evOSome (evVar 8))) evNil)))))) (evRet (evC (.bl false))) evNx (ρ.set 8 (some (.int ((cut : Nat) : Int)))) μ1 = some (.nx, ρ.set 8 (some (.int ((cut : Nat) : Int))), μ1 ++ ex1) := by
    unfold ev_cnt
    rw [s_evIfS, s_evNotT, s_evTest, s_evCall, s_evCons, s_evVar, hE1.h2, kVar_s, kCons_s, s_evCons, hcnt1, kCons_s]
    simp only [s_evCons, s_evSl, s_evVar, hE1.h4, l8, kVar_s, kSl_s, kSl2_s, kSl3_s, s_evONone, s_evOSome, kOSome_s, v_sl_b hz, kCons_s, s_evNil, kCons2_s, kCall_s, hr1, kTest_s, kNotT_s, Bool.not_true, kIfS_s, Bool.false_eq_true, if_false, s_evNx]
  -- spot
  obtain ⟨s0, μ3, g1, g2, g3, g4, g5⟩ := v_draw (μ1 ++ ex1) p ((T xs).length : Nat) hC2.pot (by omega) (by omega)
  obtain ⟨sp, rfl⟩ := Int.eq_ofNat_of_zero_le g2
  have hC3 := hC2.sx g4
  have b3 : evAsg (evCall m__law_draw (evCons (evVar 1) (evCons (evCall dLen (evCons (evVar 4) evNil)) evNil))) (egName 9) (ρ.set 8 (some (.int ((cut : Nat) : Int)))) (μ1 ++ ex1) = some (.nx, (ρ.set 8 (some (.int ((cut : Nat) : Int)))).set 9 (some (.int ((sp : Nat) : Int))), μ3) := by
    simp only [s_evAsg, s_evCall, s_evCons, s_evVar, hE1.h1, hE1.h4, kVar_s, kCons_s, s_evNil, kCons2_s, kCall_s, hlen, g1, kAsg_s, s_egName, kAsg2_s]
  obtain ⟨ρ2, hρ2⟩ : ∃ ρ2, ρ2 = (ρ.set 8 (some (.int ((cut : Nat) : Int)))).set 9 (some (.int ((sp : Nat) : Int))) := ⟨_, rfl⟩
  rw [← hρ2] at b3
  have hE2 : EF ρ2 p f l e xs := by rw [hρ2]; exact hE1.set 9 _ (by decide)
  have l9 : ρ2[9]? = some (some (.int ((sp : Nat) : Int))) := by rw [hρ2]; exact look_same (by rw [List.length_set, hE.len]; decide)
  clear hρ2
  obtain ⟨w, r, u, a, v', q1, q2, q3, q4, q5⟩ := spot_at (xs := xs) sp (by omega)
  have hS : Spot xs sp w r u a v' := ⟨q1, q3, q4, q5⟩
  -- sign
  obtain ⟨c, μ4, k1, k2, k3, hC4⟩ := v_sign hE2 hC3 hX sp a l9 hS.sign
  have hcs := signs_ok c k2
  have b4 : evAsg (evCall m__law_pick (evCons (evVar 1) (evCons (evComp (eiStr (evC (.str "0123456789 abtfunFipc;-X~"))) (egC1 17) (evTCmp (dEqv true) (evVar 17) (evBin dIx (evVar 4) (evVar 9))) (evVar 17) [17]) evNil))) (egName 10) ρ2 μ3 = some (.nx, ρ2.set 10 (some (.str (S [c]))), μ4) := by
    rw [s_evAsg, k1, kAsg_s, s_egName, kAsg2_s]
  obtain ⟨ρ3, hρ3⟩ : ∃ ρ3, ρ3 = ρ2.set 10 (some (.str (S [c]))) := ⟨_, rfl⟩
  rw [← hρ3] at b4
  have hE3 : EF ρ3 p f l e xs := by rw [hρ3]; exact hE2.set 10 _ (by decide)
  have l10 : ρ3[10]? = some (some (.str (S [c]))) := by rw [hρ3]; exact look_same (by rw [hE2.len]; decide)
  have l9a : ρ3[9]? = some (some (.int ((sp : Nat) : Int))) := by rw [hρ3]; exact look_ne l9 (by decide)
  clear hρ3
  -- whole
  obtain ⟨ex4, hcnt2⟩ := v_count hE3 hC4 hX 9 sp l9a (by decide)
  rw [q2] at hcnt2
  have hC5 := hC4.ext ex4
  have b5 : evAsg (ev_cnt 9) (egName 11) ρ3 μ4 = some (.nx, ρ3.set 11 (some (.int ((w : Nat) : Int))), μ4 ++ ex4) := by
    unfold ev_cnt
    rw [s_evAsg, hcnt2, kAsg_s, s_egName, kAsg2_s]
  obtain ⟨ρ4, hρ4⟩ : ∃ ρ4, ρ4 = ρ3.set 11 (some (.int ((w : Nat) : Int))) := ⟨_, rfl⟩
  rw [← hρ4] at b5
  have hE4 : EF ρ4 p f l e xs := by rw [hρ4]; exact hE3.set 11 _ (by decide)
  have l11 : ρ4[11]? = some (some (.int ((w : Nat) : Int))) := by rw [hρ4]; exact look_same (by rw [hE3.len]; decide)
  have l9b : ρ4[9]? = some (some (.int ((sp : Nat) : Int))) := by rw [hρ4]; exact look_ne l9a (by decide)
  have l10b : ρ4[10]? = some (some (.str (S [c]))) := by rw [hρ4]; exact look_ne l10 (by decide)
  clear hρ4
  -- start
  have hst := v_start hE4 hC5 w (Nat.le_of_lt hS.wlt) l11
  have b6 : evAsg (evIf (evTCmp dGt (evVar 11) (evC (.int 0))) (evBin dIx (evVar 5) (evBin dSub (evVar 11) (evC (.int 1)))) (evC (.int 0))) (egName 12) ρ4 (μ4 ++ ex4) = some (.nx, ρ4.set 12 (some (.int ((pre xs w).length : Nat))), μ4 ++ ex4) := by
    rw [s_evAsg, hst, kAsg_s, s_egName, kAsg2_s]
  obtain ⟨ρ5, hρ5⟩ : ∃ ρ5, ρ5 = ρ4.set 12 (some (.int ((pre xs w).length : Nat))) := ⟨_, rfl⟩
  rw [← hρ5] at b6
  have hE5 : EF ρ5 p f l e xs := by rw [hρ5]; exact hE4.set 12 _ (by decide)
  have l12 : ρ5[12]? = some (some (.int ((pre xs w).length : Nat))) := by rw [hρ5]; exact look_same (by rw [hE4.len]; decide)
  have l9c : ρ5[9]? = some (some (.int ((sp : Nat) : Int))) := by rw [hρ5]; exact look_ne l9b (by decide)
  have l10c : ρ5[10]? = some (some (.str (S [c]))) := by rw [hρ5]; exact look_ne l10b (by decide)
  have l11c : ρ5[11]? = some (some (.int ((w : Nat) : Int))) := by rw [hρ5]; exact look_ne l11 (by decide)
  clear hρ5
  -- blank
  obtain ⟨ex5, hbl⟩ := v_blank hE5 hC5 hX w r q1 l11c l12
  have hC6 := hC5.ext ex5
  have b7 := s_evAsg (e := evBin dSub (evBin dSub (evBin dAdd (evVar 12) (evCall dLen (evCons (evBin dIx (evVar 3) (evVar 11)) evNil))) (evCall dLen (evCons (evBin dIx (evMeth "str" dSplit (evBin dIx (evVar 3) (evVar 11)) (evCons (evC (.str " ")) evNil)) (evUn dNeg (evC (.int 1)))) evNil))) (evC (.int 1))) (eg := egName 13) (ρ := ρ5) (μ := μ4 ++ ex4)
  rw [hbl, kAsg_s, s_egName, kAsg2_s] at b7
  obtain ⟨ρ6, hρ6⟩ : ∃ ρ6, ρ6 = ρ5.set 13 (some (.int (((pre xs w).length + (head (w : Nat) r).length : Nat) : Int))) := ⟨_, rfl⟩
  rw [← hρ6] at b7
  have hE6 : EF ρ6 p f l e xs := by rw [hρ6]; exact hE5.set 13 _ (by decide)
  have l13 : ρ6[13]? = some (some (.int (((pre xs w).length + (head (w : Nat) r).length : Nat) : Int))) := by rw [hρ6]; exact look_same (by rw [hE5.len]; decide)
  have l9d : ρ6[9]? = some (some (.int ((sp : Nat) : Int))) := by rw [hρ6]; exact look_ne l9c (by decide)
  have l10d : ρ6[10]? = some (some (.str (S [c]))) := by rw [hρ6]; exact look_ne l10c (by decide)
  have l11d : ρ6[11]? = some (some (.int ((w : Nat) : Int))) := by rw [hρ6]; exact look_ne l11c (by decide)
  clear hρ6
  generalize μ4 ++ ex4 ++ ex5 = μ6 at *
  have b8 := v_c8 hE6 hC6 hX hS hcs k3 l9d l10d l11d l13
  -- told, once
  obtain ⟨more, at_, t1, t2, t3⟩ := v_r9 (μ := μ6) hE6 hX hS l9d
  have b9 : evAsg ev_r9 (egTup 2 (egCons (egName 14) (egCons (egName 15) egNil))) ρ6 μ6 = some (.nx, (ρ6.set 14 (some (.loc μ6.length))).set 15 (some (.int ((at_ : Nat) : Int))), μ6 ++ [.lst ((xs.take w ++ more).map Rec.d)]) := by
    rw [s_evAsg, t1, kAsg_s]
    simp
  have hC7 := hC6.ext [.lst ((xs.take w ++ more).map Rec.d)]
  obtain ⟨ρ7, hρ7⟩ : ∃ ρ7, ρ7 = (ρ6.set 14 (some (.loc μ6.length))).set 15 (some (.int ((at_ : Nat) : Int))) := ⟨_, rfl⟩
  rw [← hρ7] at b9
  have hE7 : EF ρ7 p f l e xs := by rw [hρ7]; exact (hE6.set 14 _ (by decide)).set 15 _ (by decide)
  have l14 : ρ7[14]? = some (some (.loc μ6.length)) := by rw [hρ7]; exact look_ne (look_same (by rw [hE6.len]; decide)) (by decide)
  have l9e : ρ7[9]? = some (some (.int ((sp : Nat) : Int))) := by rw [hρ7]; exact look_ne (look_ne l9d (by decide)) (by decide)
  have l10e : ρ7[10]? = some (some (.str (S [c]))) := by rw [hρ7]; exact look_ne (look_ne l10d (by decide)) (by decide)
  have l11e : ρ7[11]? = some (some (.int ((w : Nat) : Int))) := by rw [hρ7]; exact look_ne (look_ne l11d (by decide)) (by decide)
  have l13e : ρ7[13]? = some (some (.int (((pre xs w).length + (head (w : Nat) r).length : Nat) : Int))) := by rw [hρ7]; exact look_ne (look_ne l13 (by decide)) (by decide)
  clear hρ7
  obtain ⟨ex8, b10⟩ := v_c10 hE7 hC7 hX hS μ6.length more t3 l9e l11e l13e l14 get_last
  have hC8 := hC7.ext ex8
  generalize μ6 ++ [.lst ((xs.take w ++ more).map Rec.d)] ++ ex8 = μ8 at *
  obtain ⟨more2, at2, t4, t5⟩ := v_r11 (μ := μ8) hE7 hX hS hcs.1 l9e l10e
  have b11 : evAsg ev_r11 (egTup 2 (egCons (egName 14) (egCons (egName 15) egNil))) ρ7 μ8 = some (.nx, (ρ7.set 14 (some (.loc μ8.length))).set 15 (some (.int ((at2 : Nat) : Int))), μ8 ++ [.lst ((xs.take w ++ more2).map Rec.d)]) := by
    rw [s_evAsg, t4, kAsg_s]
    simp
  have hC9 := hC8.ext [.lst ((xs.take w ++ more2).map Rec.d)]
  obtain ⟨ρ8, hρ8⟩ : ∃ ρ8, ρ8 = (ρ7.set 14 (some (.loc μ8.length))).set 15 (some (.int ((at2 : Nat) : Int))) := ⟨_, rfl⟩
  rw [← hρ8] at b11
  have hE8 : EF ρ8 p f l e xs := by rw [hρ8]; exact (hE7.set 14 _ (by decide)).set 15 _ (by decide)
  have l14b : ρ8[14]? = some (some (.loc μ8.length)) := by rw [hρ8]; exact look_ne (look_same (by rw [hE7.len]; decide)) (by decide)
  have l11f : ρ8[11]? = some (some (.int ((w : Nat) : Int))) := by rw [hρ8]; exact look_ne (look_ne l11e (by decide)) (by decide)
  clear hρ8
  obtain ⟨ex9, b12⟩ := v_ne hE8 hC9 hX (Nat.le_of_lt hS.wlt) μ8.length more2 l14b l11f get_last
  refine ⟨ρ8, _, ?_, hE8, hC9.ext ex9⟩
  unfold ev_turn
  rw [s_evSeq, b1, kSeq_n, s_evSeq, b2, kSeq_n, s_evSeq, b3, kSeq_n, s_evSeq, b4, kSeq_n, s_evSeq, b5, kSeq_n, s_evSeq, b6, kSeq_n, s_evSeq, b7, kSeq_n, s_evSeq, s_evIfS, b8, kIfS_s, if_neg (by decide), s_evNx, kSeq_n, s_evSeq, b9, kSeq_n, s_evSeq, s_evIfS, b10, kIfS_s, if_neg (by decide), s_evNx, kSeq_n, s_evSeq, b11, kSeq_n, s_evIfS, b12, kIfS_s, if_neg (by decide), s_evNx]
end
end K73
set_option Elab.async false
set_option linter.all false
set_option maxRecDepth 100000
namespace K73
open PySem PySem.Spec PyProof.Rows L2 PDL SX Tel
/-! ### texts put together wrong -/
theorem flat_le (m : Nat) : ∀ ls : List (List Nat), (∀ l ∈ ls, l.length ≤ m) → ls.flatten.length ≤ m * ls.length
  | [], _ => Nat.zero_le _
  | a :: l, h => by
    have h1 := h a (List.mem_cons_self ..)
    have h2 := flat_le m l fun x hx => h x (List.mem_cons_of_mem _ hx)
    rw [List.flatten_cons, List.length_append, List.length_cons, Nat.mul_add]
    omega
theorem linesL_le {xs : List Rec} (hX : Xs xs) : ∀ l ∈ linesL xs, l.length ≤ 1700 := by
  intro l hl
  obtain ⟨i, hi⟩ := List.getElem?_of_mem hl
  have hi2 := (List.getElem?_eq_some_iff.mp hi).1
  rw [linesL_length] at hi2
  have h := linesL_at xs i xs[i] (List.getElem?_eq_getElem hi2)
  rw [h] at hi
  cases hi
  exact line_small hX (List.getElem?_eq_getElem hi2)
theorem linesL_mem {xs : List Rec} (hX : Xs xs) {ys : List (List Nat)} (h : ∀ l ∈ ys, l ∈ linesL xs) (hl : ys.length ≤ 40) : Asc ys.flatten ∧ ys.flatten.length ≤ 68000 := by
  constructor
  · intro c hc
    obtain ⟨l, h1, h2⟩ := List.mem_flatten.mp hc
    exact T_asc hX c (List.mem_flatten.mpr ⟨l, h l h1, h2⟩)
  · have := flat_le 1700 ys fun l h1 => linesL_le hX l (h l h1)
    have : 1700 * ys.length ≤ 1700 * 40 := Nat.mul_le_mul_left _ hl
    omega
section
variable {ρ : PDL.Env} {p f l e : Nat} {xs : List Rec} {μ : Store}
theorem right_of (hC : Core p f l e xs μ) (hX : Xs xs) (k : Nat) (hk : k ≤ xs.length) (cs rest : List Nat) (he : cs = pre xs k ++ rest) (ha : Asc cs) (hl : cs.length ≤ 200000) (hr : Rej (xs.take k) rest) : m__law_is_right [.loc f, .int ((k : Nat) : Int), .str (S cs)] μ = some (.bl true, μ) := by
  subst he
  rw [pre_take] at ha hl ⊢
  exact v_right xs k rest μ f hC.recs hX.ok hX.seq hk (by have := hX.hi; omega) ha hl hr
/-- a list of lines that goes on, from k, with the line of another number -/
theorem right_lines (hC : Core p f l e xs μ) (hX : Xs xs) (k m : Nat) (hk : k ≤ xs.length) (hm : m < xs.length) (hkm : m ≠ k) (ys : List (List Nat)) (h1 : ys.take k = (linesL xs).take k) (h2 : ys[k]? = some (line (m : Nat) (xs[m]))) (hall : ∀ z ∈ ys, z ∈ linesL xs) (hl : ys.length ≤ 40) :
    m__law_is_right [.loc f, .int ((k : Nat) : Int), .str (S ys.flatten)] μ = some (.bl true, μ) := by
  obtain ⟨ha, hb⟩ := linesL_mem hX hall hl
  have hk2 := (List.getElem?_eq_some_iff.mp h2).1
  have e1 : ys.flatten = pre xs k ++ (line (m : Nat) xs[m] ++ (ys.drop (k + 1)).flatten) := by
    have : ys = ys.take k ++ ys[k] :: ys.drop (k + 1) := by rw [← List.drop_eq_getElem_cons hk2, List.take_append_drop]
    have e2 : ys[k] = line (m : Nat) xs[m] := (List.getElem?_eq_some_iff.mp h2).2
    rw [e2, h1] at this
    have := congrArg List.flatten this
    rw [List.flatten_append, List.flatten_cons] at this
    exact this
  have hhi := hX.hi
  have htk : (xs.take k).length = k := by rw [List.length_take]; omega
  exact right_of hC hX k hk _ _ e1 ha (by omega) (rej_number (hX.ok _ (List.getElem_mem hm)).2 (by rw [htk]; exact hkm) (by omega) (by rw [htk]; omega))
def swp (ls : List (List Nat)) (a b : Nat) : List (List Nat) := ls.mapIdx fun i x => if i = a then ls.getD b [] else if i = b then ls.getD a [] else x
theorem swp_len (ls : List (List Nat)) (a b : Nat) : (swp ls a b).length = ls.length := by simp [swp]
theorem swp_at (ls : List (List Nat)) (a b i : Nat) : (swp ls a b)[i]? = ls[i]?.map fun x => if i = a then ls.getD b [] else if i = b then ls.getD a [] else x := by simp [swp]
theorem getD_line {xs : List Rec} {i : Nat} (h : i < xs.length) : (linesL xs).getD i [] = line (i : Nat) xs[i] := by
  rw [List.getD_eq_getElem?_getD, linesL_at xs i _ (List.getElem?_eq_getElem h)]
  rfl
theorem right_swap (hC : Core p f l e xs μ) (hX : Xs xs) (a b : Nat) (ha : a < xs.length) (hb : b < xs.length) (hab : a ≠ b) :
    m__law_is_right [.loc f, .int ((min a b : Nat) : Int), .str (S (swp (linesL xs) a b).flatten)] μ = some (.bl true, μ) := by
  refine right_lines hC hX (min a b) (max a b) (by omega) (by omega) (by omega) _ ?_ ?_ ?_ (by rw [swp_len, linesL_length]; have := hX.hi; omega)
  · refine List.ext_getElem? fun i => ?_
    rw [List.getElem?_take, List.getElem?_take]
    split
    · rename_i hi
      rw [swp_at]
      have q1 : i ≠ a := by omega
      have q2 : i ≠ b := by omega
      simp [q1, q2]
    · rfl
  · rw [swp_at, linesL_at xs (min a b) _ (List.getElem?_eq_getElem (by omega))]
    rw [Option.map_some]
    by_cases h : a < b
    · have e1 : min a b = a := by omega
      have e2 : max a b = b := by omega
      rw [if_pos e1, getD_line hb]
      congr 2
      · rw [e2]
      · congr 1; exact e2.symm
    · have e1 : min a b = b := by omega
      have e2 : max a b = a := by omega
      rw [if_neg (by omega), if_pos e1, getD_line ha]
      congr 2
      · rw [e2]
      · congr 1; exact e2.symm
  · intro z hz
    obtain ⟨i, hi⟩ := List.getElem?_of_mem hz
    rw [swp_at] at hi
    obtain ⟨x, hx, rfl⟩ := map_some hi
    split
    · rw [getD_line hb]
      exact List.mem_of_getElem? (linesL_at xs b _ (List.getElem?_eq_getElem hb))
    · split
      · rw [getD_line ha]
        exact List.mem_of_getElem? (linesL_at xs a _ (List.getElem?_eq_getElem ha))
      · exact List.mem_of_getElem? hx
theorem right_twice (hC : Core p f l e xs μ) (hX : Xs xs) (a : Nat) (ha : a < xs.length) :
    m__law_is_right [.loc f, .int ((a + 1 : Nat) : Int), .str (S ((linesL xs).take (a + 1) ++ (linesL xs).drop a).flatten)] μ = some (.bl true, μ) := by
  have hhi := hX.hi
  have hll := linesL_length xs
  refine right_lines hC hX (a + 1) a (by omega) ha (by omega) _ ?_ ?_ ?_ ?_
  · rw [List.take_left']
    rw [List.length_take]
    omega
  · rw [List.getElem?_append_right (by rw [List.length_take]; omega), List.length_take, List.getElem?_drop]
    have : a + (a + 1 - min (a + 1) (linesL xs).length) = a := by omega
    rw [this, linesL_at xs a _ (List.getElem?_eq_getElem ha)]
  · intro z hz
    rcases List.mem_append.mp hz with hz | hz
    · exact List.mem_of_mem_take hz
    · exact List.mem_of_mem_drop hz
  · rw [List.length_append, List.length_take, List.length_drop]
    omega
theorem right_less (hC : Core p f l e xs μ) (hX : Xs xs) (a : Nat) (ha : a < xs.length) :
    m__law_is_right [.loc f, .int ((a : Nat) : Int), .str (S ((linesL xs).take a ++ (linesL xs).drop (a + 1)).flatten)] μ = some (.bl true, μ) := by
  have hhi := hX.hi
  have hll := linesL_length xs
  have hall : ∀ z ∈ (linesL xs).take a ++ (linesL xs).drop (a + 1), z ∈ linesL xs := by
    intro z hz
    rcases List.mem_append.mp hz with hz | hz
    · exact List.mem_of_mem_take hz
    · exact List.mem_of_mem_drop hz
  have hlen : ((linesL xs).take a ++ (linesL xs).drop (a + 1)).length ≤ 40 := by
    rw [List.length_append, List.length_take, List.length_drop]
    omega
  rcases Nat.lt_or_ge (a + 1) xs.length with h | h
  · refine right_lines hC hX a (a + 1) (by omega) h (by omega) _ ?_ ?_ hall hlen
    · rw [List.take_left']
      rw [List.length_take]
      omega
    · rw [List.getElem?_append_right (by rw [List.length_take]; omega), List.length_take, List.getElem?_drop]
      have : a + 1 + (a - min a (linesL xs).length) = a + 1 := by omega
      rw [this, linesL_at xs (a + 1) _ (List.getElem?_eq_getElem h)]
  · obtain ⟨q1, q2⟩ := linesL_mem hX hall hlen
    have e1 : ((linesL xs).take a ++ (linesL xs).drop (a + 1)).flatten = pre xs a ++ [] := by
      rw [List.drop_eq_nil_of_le (by omega), List.append_nil, List.append_nil]
      rfl
    exact right_of hC hX a (by omega) _ _ e1 q1 (by omega) (rej_none (by simp))
theorem xx_ok : ROk (.inp [120]) := tok_inp ⟨by decide, by decide⟩
theorem late_facts (n : Nat) (h : n ≤ 30) : Asc (line (n : Nat) (.inp [120])) ∧ (line (n : Nat) (.inp [120])).length ≤ 1700 := by
  have h10 : (10 : Nat) ^ 20 = 100000000000000000000 := by decide
  refine ⟨?_, line_len _ _ (by omega) xx_ok.1⟩
  intro c hc
  simp only [line, List.mem_append, List.mem_singleton] at hc
  rcases hc with hc | hc
  · exact (line_no10 xx_ok.2 c hc).2
  · omega
theorem right_late (hC : Core p f l e xs μ) (hX : Xs xs) :
    m__law_is_right [.loc f, .int ((xs.length : Nat) : Int), .str (S (T xs ++ line (xs.length : Nat) (.inp [120])))] μ = some (.bl true, μ) := by
  have hhi := hX.hi
  have hs := hX.small
  obtain ⟨q1, q2⟩ := late_facts xs.length hhi
  have e1 : T xs ++ line (xs.length : Nat) (.inp [120]) = pre xs xs.length ++ (line (xs.length : Nat) (.inp [120]) ++ []) := by rw [pre_all, List.append_nil]
  refine right_of hC hX _ (Nat.le_refl _) _ _ e1 ?_ (by rw [List.length_append]; omega) ?_
  · intro c hc
    rcases List.mem_append.mp hc with hc | hc
    · exact T_asc hX c hc
    · exact q1 c hc
  · rw [List.take_of_length_le (Nat.le_refl _)]
    exact rej_late xx_ok.2 hX.lo
theorem right_gap (hC : Core p f l e xs μ) (hX : Xs xs) :
    m__law_is_right [.loc f, .int ((xs.length : Nat) : Int), .str (S (T xs ++ [10] ++ line (xs.length : Nat) (.inp [120])))] μ = some (.bl true, μ) := by
  have hhi := hX.hi
  have hs := hX.small
  obtain ⟨q1, q2⟩ := late_facts xs.length hhi
  have e1 : T xs ++ [10] ++ line (xs.length : Nat) (.inp [120]) = pre xs xs.length ++ ([] ++ 10 :: line (xs.length : Nat) (.inp [120])) := by rw [pre_all]; simp
  refine right_of hC hX _ (Nat.le_refl _) _ _ e1 ?_ (by rw [List.length_append, List.length_append, List.length_singleton]; omega) ?_
  · intro c hc
    rcases List.mem_append.mp hc with hc | hc
    · rcases List.mem_append.mp hc with hc | hc
      · exact T_asc hX c hc
      · simp at hc; omega
    · exact q1 c hc
  · exact rej_line (by simp) fun r hr => acc_nil hr
end
end K73
set_option Elab.async false
set_option linter.all false
set_option maxRecDepth 100000
namespace K73
open PySem PySem.Spec PyProof.Rows L2 PDL SX Tel
/-! ### the law's beginning -/
theorem endsL_snoc : ∀ (ls : List (List Nat)) (x : List Nat) (b : Nat), endsL (ls ++ [x]) b = endsL ls b ++ [b + ls.flatten.length + x.length]
  | [], x, b => by simp [endsL]
  | a :: l, x, b => by
    show (b + a.length) :: endsL (l ++ [x]) (b + a.length) = _
    rw [endsL_snoc l x (b + a.length)]
    simp [endsL]
    omega
abbrev RR (a b c d e f g h : Option D) : PDL.Env := [a, b, c, d, e, f, g, h, none, none, none, none, none, none, none, none, none, none, none, none, none, none, none]
noncomputable def ev_s1 : EvS := evAsg (evCall m__law_pot (evCons (evVar 0) (evCons (evC (.int 0)) evNil))) (egName 1)
noncomputable def ev_s2 : EvS := evAsg (evCall m__law_records (evCons (evVar 1) (evCons (evCall m__law_pick (evCons (evVar 1) (evCons (evLst (evCons (evC (.int 3)) (evCons (evC (.int 8)) (evCons (evC (.int 30)) evNil)))) evNil))) evNil))) (egName 2)
noncomputable def ev_s3 : EvS := evAsg (evComp (eiEnum (evCons (evVar 2) evNil)) (egC2 20 21) evYes (evCall m_record_line (evCons (evVar 20) (evCons (evVar 21) evNil))) [20, 21]) (egName 3)
noncomputable def ev_s4 : EvS := evAsg (evTup (evCons (evCall m_journal_text (evCons (evVar 2) evNil)) (evCons (evLst evNil) (evCons (evC (.int 0)) evNil)))) (egTup 3 (egCons (egName 4) (egCons (egName 5) (egCons (egName 6) egNil))))
noncomputable def ev_s5b : EvS := evSeq (evAsg (evBin dAdd (evVar 6) (evCall dLen (evCons (evVar 7) evNil))) (egName 6)) (evDrop (evMeth "list" dAppend (evVar 5) (evCons (evVar 6) evNil)))
noncomputable def ev_s5 : EvS := evFor (eiSeq (evVar 3)) (egName 7) ev_s5b
noncomputable def ev_s6 : EvS := evIfS (evTCmp (dEqv true) (evVar 4) (evMeth "str" dJoin (evC (.str "")) (evCons (evVar 3) evNil))) (evRet (evC (.bl false))) evNx
theorem v_s12 (ns : List Int) (μ : Store) : ∃ p f xs μ', Xs xs ∧ Pot μ' p ∧ f ≠ p ∧ μ'[f]? = some (.lst (xs.map Rec.d)) ∧ ∀ rest, evSeq ev_s1 (evSeq ev_s2 rest) (RR (some (.rl (ns.map .int))) none none none none none none none) μ = rest (RR (some (.rl (ns.map .int))) (some (.loc p)) (some (.loc f)) none none none none none) μ' := by
  obtain ⟨a, b, h1, h2, h3, h4⟩ := v_pot ns μ
  obtain ⟨μ1, e1⟩ : ∃ μ1, μ1 = μ ++ [MO.lst [.int a, .int b]] := ⟨_, rfl⟩
  rw [← e1] at h1
  have hp1 : Pot μ1 μ.length := ⟨a, b, by rw [e1]; exact get_last, h2, h3, h4⟩
  have b1 : ev_s1 (RR (some (.rl (ns.map .int))) none none none none none none none) μ = some (.nx, RR (some (.rl (ns.map .int))) (some (.loc μ.length)) none none none none none none, μ1) := by
    unfold ev_s1
    simp [h1]
  have hs2 := Sx.push hp1 [MO.lst [.int 3, .int 8, .int 30]]
  have hlt := hp1.lt
  obtain ⟨x, μ2, p1, p2, p3, p4⟩ := v_pick (μ1 ++ [MO.lst [.int 3, .int 8, .int 30]]) μ.length μ1.length [.int 3, .int 8, .int 30] hs2.pot get_last (by omega) (by simp) (by decide)
  obtain ⟨many, hx, m1, m2⟩ : ∃ many : Nat, x = .int (many : Nat) ∧ 3 ≤ many ∧ many ≤ 30 := by
    simp only [List.mem_cons, List.mem_nil_iff, or_false] at p2
    rcases p2 with rfl | rfl | rfl
    · exact ⟨3, rfl, by decide, by decide⟩
    · exact ⟨8, rfl, by decide, by decide⟩
    · exact ⟨30, rfl, by decide, by decide⟩
  subst hx
  obtain ⟨f, μ3, xs, r1, r2, r3, r4, r5, r6, r7⟩ := v_records μ2 μ.length many m1 m2 p3.pot
  refine ⟨μ.length, f, xs, μ3, ⟨r5, r6, by omega, by omega⟩, r7.pot, by have := p3.pot.lt; omega, r2, fun rest => ?_⟩
  have b2 : ev_s2 (RR (some (.rl (ns.map .int))) (some (.loc μ.length)) none none none none none none) μ1 = some (.nx, RR (some (.rl (ns.map .int))) (some (.loc μ.length)) (some (.loc f)) none none none none none, μ3) := by
    unfold ev_s2
    simp [size_eq, p1, r1]
  rw [s_evSeq, b1, kSeq_n, s_evSeq, b2, kSeq_n]
theorem v_s34 (xs : List Rec) (hX : Xs xs) (d0 : D) (p f : Nat) (μ : Store) (hp : Pot μ p) (hfp : f ≠ p) (hf : μ[f]? = some (.lst (xs.map Rec.d))) : ∃ l e μ', Pot μ' p ∧ l ≠ p ∧ e ≠ p ∧ f ≠ e ∧ l ≠ e ∧ μ'[f]? = some (.lst (xs.map Rec.d)) ∧ μ'[l]? = some (.lst ((linesL xs).map fun q => .str (S q))) ∧ μ'[e]? = some (.lst []) ∧
    ∀ rest, evSeq ev_s3 (evSeq ev_s4 rest) (RR (some d0) (some (.loc p)) (some (.loc f)) none none none none none) μ = rest (RR (some d0) (some (.loc p)) (some (.loc f)) (some (.loc l)) (some (.str (S (T xs)))) (some (.loc e)) (some (.int 0)) none) μ' := by
  have hhi := hX.hi
  obtain ⟨ex, hc⟩ := comp_all (rd := rdEnum f) (g := egC2 20 21) (e := evCall m_record_line (evCons (evVar 20) (evCons (evVar 21) evNil))) (ρ := RR (some d0) (some (.loc p)) (some (.loc f)) none none none none none) (enu (xs.map Rec.d)) ((linesL xs).map fun l => .str (S l)) μ (by simp [enu_len, linesL])
    (fun i acc ex => enu_rd hf i _) (by rw [enu_len, List.length_map, size_eq]; omega)
    (fun i d y hd hy => by
      obtain ⟨x, hx, rfl⟩ := enu_at hd
      rw [List.getElem?_map] at hx
      obtain ⟨r, hr, rfl⟩ := map_some hx
      have hi : i < xs.length := (List.getElem?_eq_some_iff.mp hr).1
      have hy2 : y = .str (S (line (i : Nat) r)) := by
        rw [List.getElem?_map, linesL_at xs i r hr] at hy
        cases hy
        rfl
      subst hy2
      refine ⟨_, rfl, fun acc ex => ⟨ex, ?_⟩⟩
      have hro := hX.ok r (List.mem_of_getElem? hr)
      have hn : isN ((i : Nat) : Int) = true := by
        unfold isN
        rw [decide_eq_true (by omega), decide_eq_true (by omega)]
        rfl
      have := v_record_line (i : Nat) r (μ ++ .lst acc :: ex) hn hro.1 hro.2
      simp [this])
  obtain ⟨μ1, e1⟩ : ∃ μ1, μ1 = μ ++ MO.lst ((linesL xs).map fun l => .str (S l)) :: ex := ⟨_, rfl⟩
  rw [← e1] at hc
  have hfl : f < μ.length := (List.getElem?_eq_some_iff.mp hf).1
  have hpl := hp.lt
  have hp1 : Pot μ1 p := by rw [e1]; exact (Sx.push hp _).pot
  have hf1 : μ1[f]? = some (.lst (xs.map Rec.d)) := by rw [e1, List.getElem?_append_left hfl]; exact hf
  have hl1 : μ1[μ.length]? = some (.lst ((linesL xs).map fun q => .str (S q))) := by rw [e1]; exact get_last
  have hlen1 : μ.length < μ1.length := (List.getElem?_eq_some_iff.mp hl1).1
  have hjt := v_journal_text xs μ1 f hf1 (fun r hr => hX.ok r hr) hX.seq (by omega)
  refine ⟨μ.length, μ1.length, μ1 ++ [.lst []], (Sx.push hp1 _).pot, by omega, by omega, by omega, by omega, by rw [List.getElem?_append_left (by omega)]; exact hf1, by rw [List.getElem?_append_left (by omega)]; exact hl1, get_last, fun rest => ?_⟩
  have b3 : ev_s3 (RR (some d0) (some (.loc p)) (some (.loc f)) none none none none none) μ = some (.nx, RR (some d0) (some (.loc p)) (some (.loc f)) (some (.loc μ.length)) none none none none, μ1) := by
    unfold ev_s3
    rw [s_evAsg, s_evComp]
    simp [hf, hc]
  have b4 : ev_s4 (RR (some d0) (some (.loc p)) (some (.loc f)) (some (.loc μ.length)) none none none none) μ1 = some (.nx, RR (some d0) (some (.loc p)) (some (.loc f)) (some (.loc μ.length)) (some (.str (S (T xs)))) (some (.loc μ1.length)) (some (.int 0)) none, μ1 ++ [.lst []]) := by
    unfold ev_s4
    simp [hjt, size_eq]
  rw [s_evSeq, b3, kSeq_n, s_evSeq, b4, kSeq_n]
theorem v_s56 (xs : List Rec) (hX : Xs xs) (d0 : D) (p f l e : Nat) (μ : Store) (hp : Pot μ p) (hfp : f ≠ p) (hlp : l ≠ p) (hep : e ≠ p) (hfe : f ≠ e) (hle : l ≠ e) (hf : μ[f]? = some (.lst (xs.map Rec.d))) (hl : μ[l]? = some (.lst ((linesL xs).map fun q => .str (S q)))) (he : μ[e]? = some (.lst [])) :
    ∃ ρ' μ', EF ρ' p f l e xs ∧ Core p f l e xs μ' ∧ ∀ rest, evSeq ev_s5 (evSeq ev_s6 rest) (RR (some d0) (some (.loc p)) (some (.loc f)) (some (.loc l)) (some (.str (S (T xs)))) (some (.loc e)) (some (.int 0)) none) μ = rest ρ' μ' := by
  have hhi := hX.hi
  have hll := linesL_length xs
  obtain ⟨rr, hr, x6, x7, μ', e1, hC⟩ := for_run (it := eiSeq (evVar 3)) (g := egName 7) (b := ev_s5b) (ρ := RR (some d0) (some (.loc p)) (some (.loc f)) (some (.loc l)) (some (.str (S (T xs)))) (some (.loc e)) (some (.int 0)) none) (μ := μ) (μ1 := μ) (rd := rdLoc l) xs.length
    (fun i ρ μ' => ∃ (x7 : Option D), ρ = RR (some d0) (some (.loc p)) (some (.loc f)) (some (.loc l)) (some (.str (S (T xs)))) (some (.loc e)) (some (.int (((linesL xs).take i).flatten.length : Nat))) x7 ∧ i ≤ xs.length ∧ Pot μ' p ∧ μ'[f]? = some (.lst (xs.map Rec.d)) ∧ μ'[l]? = some (.lst ((linesL xs).map fun q => .str (S q))) ∧ μ'[e]? = some (.lst ((endsL ((linesL xs).take i) 0).map fun q => .int ((q : Nat) : Int))))
    (fun r => ∃ (x6 x7 : Option D) (μ' : Store), r = (.nx, RR (some d0) (some (.loc p)) (some (.loc f)) (some (.loc l)) (some (.str (S (T xs)))) (some (.loc e)) x6 x7, μ') ∧ Core p f l e xs μ')
    (by simp [hl]) (by omega) ⟨none, by simp, Nat.zero_le _, hp, hf, hl, by simpa [endsL] using he⟩
    (by
      rintro i ρ μ' ⟨x7, rfl, hi, gp, gf, gl, ge⟩
      refine ⟨hi, ?_⟩
      by_cases hie : i = xs.length
      · refine .inl ⟨?_, _, x7, μ', rfl, gp, gf, gl, ?_, hfp, hlp, hep⟩
        · unfold rdLoc
          rw [gl]
          show some (((linesL xs).map fun q => D.str (S q))[i]?) = some none
          rw [List.getElem?_eq_none (by rw [List.length_map]; omega)]
        · rw [ge, List.take_of_length_le (by omega)]
      · have hlt : i < xs.length := by omega
        have hline := linesL_at xs i _ (List.getElem?_eq_getElem hlt)
        have hsm := line_small hX (List.getElem?_eq_getElem hlt)
        obtain ⟨q, hq⟩ : ∃ q, q = line (i : Nat) xs[i] := ⟨_, rfl⟩
        rw [← hq] at hline hsm
        have etk : (linesL xs).take (i + 1) = (linesL xs).take i ++ [q] := by rw [List.take_add_one, hline]; rfl
        have hlen := v_len_str (μ := μ') (l := q) (by rw [size_eq]; omega)
        have happ := v_append (d := .int ((((linesL xs).take i).flatten.length + q.length : Nat) : Int)) ge (by rw [List.length_map, ends_len, List.length_take, size_eq]; omega)
        refine .inr ⟨hlt, .str (S q), (RR (some d0) (some (.loc p)) (some (.loc f)) (some (.loc l)) (some (.str (S (T xs)))) (some (.loc e)) (some (.int (((linesL xs).take i).flatten.length : Nat))) (some (.str (S q)))), μ', .nx, (RR (some d0) (some (.loc p)) (some (.loc f)) (some (.loc l)) (some (.str (S (T xs)))) (some (.loc e)) (some (.int ((((linesL xs).take i).flatten.length + q.length : Nat) : Int))) (some (.str (S q)))), μ'.set e (.lst (((endsL ((linesL xs).take i) 0).map fun q => .int ((q : Nat) : Int)) ++ [.int ((((linesL xs).take i).flatten.length + q.length : Nat) : Int)])), ?_, rfl, ?_, ?_⟩
        · unfold rdLoc
          rw [gl]
          show some (((linesL xs).map fun q => D.str (S q))[i]?) = _
          rw [List.getElem?_map, hline]
          rfl
        · unfold ev_s5b
          rw [s_evSeq]
          have c1 : evAsg (evBin dAdd (evVar 6) (evCall dLen (evCons (evVar 7) evNil))) (egName 6) (RR (some d0) (some (.loc p)) (some (.loc f)) (some (.loc l)) (some (.str (S (T xs)))) (some (.loc e)) (some (.int (((linesL xs).take i).flatten.length : Nat))) (some (.str (S q)))) μ' = some (.nx, RR (some d0) (some (.loc p)) (some (.loc f)) (some (.loc l)) (some (.str (S (T xs)))) (some (.loc e)) (some (.int ((((linesL xs).take i).flatten.length + q.length : Nat) : Int))) (some (.str (S q))), μ') := by
            simp only [s_evAsg, s_evBin, s_evVar, List.getElem?_cons_succ, List.getElem?_cons_zero, kVar_s, kBin_s, s_evCall, s_evCons, kCons_s, s_evNil, kCons2_s, kCall_s, hlen, kBin2_s, v_add_int, kAsg_s, s_egName, List.set_cons_succ, List.set_cons_zero, kAsg2_s, Int.natCast_add]
          rw [c1, kSeq_n]
          simp only [s_evDrop, s_evMeth, s_evVar, List.getElem?_cons_succ, List.getElem?_cons_zero, kVar_s, kMe_s, isTy_loc ge, if_true, s_evCons, kCons_s, s_evNil, kCons2_s, kMe2_s, happ, kDrop_s]
        · refine ⟨some (.str (S q)), ?_, hlt, ?_, ?_, ?_, ?_⟩
          · rw [etk, List.flatten_append, List.length_append]
            simp only [List.flatten_cons, List.flatten_nil, List.append_nil]
          · exact Sx.set gp _ hep (.inr trivial)
          · rw [List.getElem?_set_ne (Ne.symm hfe)]; exact gf
          · rw [List.getElem?_set_ne (Ne.symm hle)]; exact gl
          · rw [List.getElem?_set_self (List.getElem?_eq_some_iff.mp ge).1, etk, endsL_snoc, List.map_append, Nat.zero_add]
            rfl)
  subst e1
  refine ⟨RR (some d0) (some (.loc p)) (some (.loc f)) (some (.loc l)) (some (.str (S (T xs)))) (some (.loc e)) x6 x7, μ', ⟨rfl, rfl, rfl, rfl, rfl, rfl⟩, hC, fun rest => ?_⟩
  have hs := hX.small
  have hj := v_join (μ := μ') (n := l) (k := []) (ls := linesL xs) hC.lines
    (by
      have := List.length_flatten (L := linesL xs)
      unfold T at hs
      simp only [List.length_nil]
      omega)
  rw [joinL_nil] at hj
  have hq : dEqv true (.str (S (T xs))) (.str (S (linesL xs).flatten)) μ' = some false := by
    rw [v_eq_S (T_asc hX) (T_asc hX)]
    simp
  have b6 : ev_s6 (RR (some d0) (some (.loc p)) (some (.loc f)) (some (.loc l)) (some (.str (S (T xs)))) (some (.loc e)) x6 x7) μ' = some (.nx, RR (some d0) (some (.loc p)) (some (.loc f)) (some (.loc l)) (some (.str (S (T xs)))) (some (.loc e)) x6 x7, μ') := by
    unfold ev_s6
    simp only [s_evIfS, s_evTCmp, s_evVar, List.getElem?_cons_succ, List.getElem?_cons_zero, kVar_s, kTCmp_s, s_evMeth, s_evC, kMe_s, isTy_str, if_true, s_evCons, kCons_s, s_evNil, kCons2_s, kMe2_s, l_em, hj, kTCmp2_s, hq, kTl_s, kIfS_s, Bool.false_eq_true, if_false, s_evNx]
  have b5 : ev_s5 (RR (some d0) (some (.loc p)) (some (.loc f)) (some (.loc l)) (some (.str (S (T xs)))) (some (.loc e)) (some (.int 0)) none) μ = _ := hr
  rw [s_evSeq, b5, kSeq_n, s_evSeq, b6, kSeq_n]
end K73
set_option Elab.async false
set_option linter.all false
set_option maxRecDepth 100000
namespace K73
open PySem PySem.Spec PyProof.Rows L2 PDL SX Tel
/-! ### the law's end -/
noncomputable def ev_s7 : EvS := evFor (eiRange (evCons (evC (.int 12)) evNil)) (egName 16) ev_turn
noncomputable def ev_s8 : EvS := evAsg (evTup (evCons (evCall m__law_draw (evCons (evVar 1) (evCons (evCall dLen (evCons (evVar 3) evNil)) evNil))) (evCons (evCall m__law_draw (evCons (evVar 1) (evCons (evCall dLen (evCons (evVar 3) evNil)) evNil))) evNil))) (egTup 2 (egCons (egName 17) (egCons (egName 18) egNil)))
noncomputable def ev_swl : Ev := evMeth "str" dJoin (evC (.str "")) (evCons (evComp (eiEnum (evCons (evVar 3) evNil)) (egC2 20 7) evYes (evIf (evTCmp (dEqv false) (evVar 20) (evVar 17)) (evBin dIx (evVar 3) (evVar 18)) (evIf (evTCmp (dEqv false) (evVar 20) (evVar 18)) (evBin dIx (evVar 3) (evVar 17)) (evVar 7))) [20, 7]) evNil)
noncomputable def ev_s9 : EvS := evIfS (evAndT (evTCmp (dEqv true) (evVar 17) (evVar 18)) (evNotT (evTest (evCall m__law_is_right (evCons (evVar 2) (evCons (evCall dMin (evCons (evVar 17) (evCons (evVar 18) evNil))) (evCons ev_swl evNil)))))))
  (evRet (evC (.bl false)))
  evNx
noncomputable def ev_tw : Ev := evMeth "str" dJoin (evC (.str "")) (evCons (evBin dAdd (evSl dSl (evVar 3) evONone (evOSome (evBin dAdd (evVar 17) (evC (.int 1))))) (evSl dSl (evVar 3) (evOSome (evVar 17)) evONone)) evNil)
noncomputable def ev_ls : Ev := evMeth "str" dJoin (evC (.str "")) (evCons (evBin dAdd (evSl dSl (evVar 3) evONone (evOSome (evVar 17))) (evSl dSl (evVar 3) (evOSome (evBin dAdd (evVar 17) (evC (.int 1)))) evONone)) evNil)
noncomputable def ev_s10 : EvS := evIfS (evOrT (evNotT (evTest (evCall m__law_is_right (evCons (evVar 2) (evCons (evBin dAdd (evVar 17) (evC (.int 1))) (evCons ev_tw evNil)))))) (evNotT (evTest (evCall m__law_is_right (evCons (evVar 2) (evCons (evVar 17) (evCons ev_ls evNil)))))))
  (evRet (evC (.bl false)))
  evNx
noncomputable def ev_s11 : EvS := evAsg (evCall m_record_line (evCons (evCall dLen (evCons (evVar 2) evNil)) (evCons (evTup (evCons (evC (.str "inputs")) (evCons (evC (.str "x")) evNil))) evNil))) (egName 19)
noncomputable def ev_s12 : EvS := evIfS (evOrT (evNotT (evTest (evCall m__law_is_right (evCons (evVar 2) (evCons (evCall dLen (evCons (evVar 2) evNil)) (evCons (evBin dAdd (evVar 4) (evVar 19)) evNil)))))) (evNotT (evTest (evCall m__law_is_right (evCons (evVar 2) (evCons (evCall dLen (evCons (evVar 2) evNil)) (evCons (evBin dAdd (evBin dAdd (evVar 4) (evC (.str "\n"))) (evVar 19)) evNil)))))))
  (evRet (evC (.bl false)))
  evNx
noncomputable def ev_s13 : EvS := evRet (evAnd (evCmp (dEqv false) (evCall m_sum_of (evCons (evC (.str "")) evNil)) (evC (.int 1))) (evCmp (dEqv false) (evCall m_read_journal (evCons (evC (.str "\n")) evNil)) (evTup (evCons (evLst evNil) (evCons (evC (.int 0)) evNil)))))
section
variable {ρ : PDL.Env} {p f l e : Nat} {xs : List Rec} {μ : Store}
theorem v_s7 (hE : EF ρ p f l e xs) (hC : Core p f l e xs μ) (hX : Xs xs) : ∃ ρ' μ', ev_s7 ρ μ = some (.nx, ρ', μ') ∧ EF ρ' p f l e xs ∧ Core p f l e xs μ' := by
  obtain ⟨r, hr, ρ', μ', rfl, h1, h2⟩ := for_run (it := eiRange (evCons (evC (.int 12)) evNil)) (g := egName 16) (b := ev_turn) (ρ := ρ) (μ := μ) (μ1 := μ) (rd := rdRange 12) 12
    (fun i ρ μ => i ≤ 12 ∧ EF ρ p f l e xs ∧ Core p f l e xs μ) (fun r => ∃ ρ' μ', r = (.nx, ρ', μ') ∧ EF ρ' p f l e xs ∧ Core p f l e xs μ')
    (by simp) (by decide) ⟨by decide, hE, hC⟩
    (by
      rintro i ρ μ ⟨hi, gE, gC⟩
      refine ⟨hi, ?_⟩
      by_cases h : i = 12
      · subst h
        exact .inl ⟨rfl, ρ, μ, rfl, gE, gC⟩
      · obtain ⟨ρ2, μ2, k1, k2, k3⟩ := v_turn (gE.set 16 (some (.int (i : Nat))) (by decide)) gC hX
        have hlt : i < 12 := by omega
        refine .inr ⟨hlt, .int (i : Nat), _, μ, .nx, ρ2, μ2, ?_, rfl, k1, hlt, k2, k3⟩
        unfold rdRange
        rw [if_pos hlt])
  exact ⟨ρ', μ', hr, h1, h2⟩
theorem v_s8 (hE : EF ρ p f l e xs) (hC : Core p f l e xs μ) (hX : Xs xs) : ∃ (a b : Nat) (ρ' : PDL.Env) (μ' : Store), ev_s8 ρ μ = some (.nx, ρ', μ') ∧ EF ρ' p f l e xs ∧ Core p f l e xs μ' ∧ a < xs.length ∧ b < xs.length ∧ ρ'[17]? = some (some (.int ((a : Nat) : Int))) ∧ ρ'[18]? = some (some (.int ((b : Nat) : Int))) := by
  have hlo := hX.lo
  have hhi := hX.hi
  have hlen := fun {μ : Store} (h : Core p f l e xs μ) => v_len_loc (μ := μ) (n := l) h.lines
  simp only [List.length_map, linesL_length] at hlen
  obtain ⟨a0, μ1, d1, d2, d3, d4, d5⟩ := v_draw μ p (xs.length : Nat) hC.pot (by omega) (by omega)
  obtain ⟨a, rfl⟩ := Int.eq_ofNat_of_zero_le d2
  have hC1 := hC.sx d4
  obtain ⟨b0, μ2, g1, g2, g3, g4, g5⟩ := v_draw μ1 p (xs.length : Nat) hC1.pot (by omega) (by omega)
  obtain ⟨b, rfl⟩ := Int.eq_ofNat_of_zero_le g2
  refine ⟨a, b, (ρ.set 17 (some (.int ((a : Nat) : Int)))).set 18 (some (.int ((b : Nat) : Int))), μ2, ?_, (hE.set 17 _ (by decide)).set 18 _ (by decide), hC1.sx g4, by omega, by omega, look_ne (look_same (by rw [hE.len]; decide)) (by decide), look_same (by rw [List.length_set, hE.len]; decide)⟩
  unfold ev_s8
  simp only [s_evAsg, s_evTup, s_evCons, s_evCall, s_evVar, hE.h1, hE.h3, kVar_s, kCons_s, s_evNil, kCons2_s, kCall_s, hlen hC, hlen hC1, d1, g1, kTup_s, List.length_cons, List.length_nil, if_pos (show (0 + 1 + 1 : Nat) ≤ sizeLine by rw [size_eq]; decide), kAsg_s, s_egTup, if_true, s_egCons, s_egName, kEg_s, s_egNil, kAsg2_s]
theorem v_swl (hE : EF ρ p f l e xs) (hC : Core p f l e xs μ) (hX : Xs xs) {a b : Nat} (ha : a < xs.length) (hb : b < xs.length) (h17 : ρ[17]? = some (some (.int ((a : Nat) : Int)))) (h18 : ρ[18]? = some (some (.int ((b : Nat) : Int)))) : ∃ ex, ev_swl ρ μ = some (.str (S (swp (linesL xs) a b).flatten), μ ++ ex) := by
  have hhi := hX.hi
  have hll := linesL_length xs
  obtain ⟨ex, hc⟩ := comp_all (rd := rdEnum l) (g := egC2 20 7) (e := evIf (evTCmp (dEqv false) (evVar 20) (evVar 17)) (evBin dIx (evVar 3) (evVar 18)) (evIf (evTCmp (dEqv false) (evVar 20) (evVar 18)) (evBin dIx (evVar 3) (evVar 17)) (evVar 7))) (ρ := (ρ.set 7 none).set 20 none) (enu ((linesL xs).map fun q => .str (S q))) ((swp (linesL xs) a b).map fun l => .str (S l)) μ (by simp [enu_len, linesL, swp_len])
    (fun i acc ex => enu_rd hC.lines i _) (by rw [enu_len, List.length_map, size_eq]; omega)
    (fun i d y hd hy => by
      obtain ⟨x, hx, rfl⟩ := enu_at hd
      rw [List.getElem?_map] at hx
      obtain ⟨q, hq, rfl⟩ := map_some hx
      have hy2 : y = .str (S (if i = a then (linesL xs).getD b [] else if i = b then (linesL xs).getD a [] else q)) := by
        rw [List.getElem?_map, swp_at, hq] at hy
        cases hy
        rfl
      subst hy2
      refine ⟨_, rfl, fun acc ex => ⟨ex, ?_⟩⟩
      obtain ⟨ρ1, hρ1⟩ : ∃ ρ1, ρ1 = (((ρ.set 7 none).set 20 none).set 20 (some (.int ((i : Nat) : Int)))).set 7 (some (D.str (S q))) := ⟨_, rfl⟩
      rw [← hρ1]
      have g17 : ρ1[17]? = some (some (.int ((a : Nat) : Int))) := by rw [hρ1]; exact look_ne (look_ne (look_ne (look_ne h17 (by decide)) (by decide)) (by decide)) (by decide)
      have g18 : ρ1[18]? = some (some (.int ((b : Nat) : Int))) := by rw [hρ1]; exact look_ne (look_ne (look_ne (look_ne h18 (by decide)) (by decide)) (by decide)) (by decide)
      have g3 : ρ1[3]? = some (some (.loc l)) := by rw [hρ1]; exact look_ne (look_ne (look_ne (look_ne hE.h3 (by decide)) (by decide)) (by decide)) (by decide)
      have g20 : ρ1[20]? = some (some (.int ((i : Nat) : Int))) := by rw [hρ1]; exact look_ne (look_same (by simp [hE.len])) (by decide)
      have g7 : ρ1[7]? = some (some (.str (S q))) := by rw [hρ1]; exact look_same (by simp [hE.len])
      clear hρ1
      have hix : ∀ (j : Nat), j < xs.length → dIx (.loc l) (.int ((j : Nat) : Int)) (μ ++ .lst acc :: ex) = some (.str (S ((linesL xs).getD j [])), μ ++ .lst acc :: ex) := fun j hj => by
        rw [v_ix_loc (hC.ext (.lst acc :: ex)).lines, PDL.atI_nat, List.getElem?_map, linesL_at xs j _ (List.getElem?_eq_getElem hj), getD_line hj]
        rfl
      by_cases k1 : i = a
      · have e1 : ∀ μ : Store, dEqv false (.int ((i : Nat) : Int)) (.int ((a : Nat) : Int)) μ = some true := fun μ => by rw [PDL.v_eq_int, k1]; simp
        simp only [s_evIf, s_evTCmp, s_evVar, g20, g17, kVar_s, kTCmp_s, kTCmp2_s, e1, kTl_s, kIf_s, if_true, s_evBin, g3, g18, kBin_s, kBin2_s, hix b hb, if_pos k1]
      · have e1 : ∀ μ : Store, dEqv false (.int ((i : Nat) : Int)) (.int ((a : Nat) : Int)) μ = some false := fun μ => by rw [PDL.v_eq_int]; simp; omega
        by_cases k2 : i = b
        · have e2 : ∀ μ : Store, dEqv false (.int ((i : Nat) : Int)) (.int ((b : Nat) : Int)) μ = some true := fun μ => by rw [PDL.v_eq_int, k2]; simp
          simp only [s_evIf, s_evTCmp, s_evVar, g20, g17, kVar_s, kTCmp_s, kTCmp2_s, e1, e2, kTl_s, kIf_s, if_true, Bool.false_eq_true, if_false, s_evBin, g3, g18, kBin_s, kBin2_s, hix a ha, if_neg k1, if_pos k2]
        · have e2 : ∀ μ : Store, dEqv false (.int ((i : Nat) : Int)) (.int ((b : Nat) : Int)) μ = some false := fun μ => by rw [PDL.v_eq_int]; simp; omega
          simp only [s_evIf, s_evTCmp, s_evVar, g20, g17, kVar_s, kTCmp_s, kTCmp2_s, e1, e2, kTl_s, kIf_s, Bool.false_eq_true, if_false, g18, g7, if_neg k1, if_neg k2])
  have hj := v_join (μ := μ ++ MO.lst ((swp (linesL xs) a b).map fun l => .str (S l)) :: ex) (n := μ.length) (k := []) (ls := swp (linesL xs) a b) get_last
    (by
      have h1 := flat_le 1700 (swp (linesL xs) a b) (fun z hz => by
        obtain ⟨i, hi⟩ := List.getElem?_of_mem hz
        rw [swp_at] at hi
        obtain ⟨x, hx, rfl⟩ := map_some hi
        have hg : ∀ j, j < xs.length → ((linesL xs).getD j []).length ≤ 1700 := fun j hj => by
          rw [getD_line hj]
          exact line_small hX (List.getElem?_eq_getElem hj)
        split
        · exact hg b hb
        · split
          · exact hg a ha
          · exact linesL_le hX x (List.mem_of_getElem? hx))
      rw [List.length_flatten, swp_len, hll] at h1
      have h2 : 1700 * xs.length ≤ 1700 * 30 := Nat.mul_le_mul_left _ hhi
      simp only [List.length_nil]
      omega)
  rw [joinL_nil] at hj
  refine ⟨MO.lst ((swp (linesL xs) a b).map fun l => .str (S l)) :: ex, ?_⟩
  unfold ev_swl
  simp only [s_evMeth, s_evC, kMe_s, isTy_str, if_true, s_evCons, s_evComp, s_eiEnum, s_evVar, hE.h3, kVar_s, kCons_s, s_evNil, kCons2_s, kEnuI_s, hC.lines, kEnuJ_s, s_wipe1, s_wipe0, kComp_s, hc, Option.map_some, kMe2_s, l_em, hj]
theorem v_s9 (hE : EF ρ p f l e xs) (hC : Core p f l e xs μ) (hX : Xs xs) {a b : Nat} (ha : a < xs.length) (hb : b < xs.length) (h17 : ρ[17]? = some (some (.int ((a : Nat) : Int)))) (h18 : ρ[18]? = some (some (.int ((b : Nat) : Int)))) : ∃ ex, ev_s9 ρ μ = some (.nx, ρ, μ ++ ex) := by
  unfold ev_s9
  by_cases h : a = b
  · have e1 : dEqv true (.int ((a : Nat) : Int)) (.int ((b : Nat) : Int)) μ = some false := by rw [PDL.v_eq_int, h]; simp
    refine ⟨[], ?_⟩
    simp only [s_evIfS, s_evAndT, s_evTCmp, s_evVar, h17, h18, kVar_s, kTCmp_s, kTCmp2_s, e1, kTl_s, kAndT_s, Bool.false_eq_true, if_false, kIfS_s, s_evNx, List.append_nil]
  · have e1 : dEqv true (.int ((a : Nat) : Int)) (.int ((b : Nat) : Int)) μ = some true := by rw [PDL.v_eq_int]; simp; omega
    obtain ⟨ex, hw⟩ := v_swl hE hC hX ha hb h17 h18
    have hr := right_swap (hC.ext ex) hX a b ha hb h
    have hm : dMin [.int ((a : Nat) : Int), .int ((b : Nat) : Int)] μ = some (.int ((min a b : Nat) : Int), μ) := by
      unfold dMin
      by_cases q : b < a
      · simp only [if_pos (show ((b : Nat) : Int) < (a : Nat) by omega), show min a b = b by omega]
      · simp only [if_neg (show ¬ ((b : Nat) : Int) < (a : Nat) by omega), show min a b = a by omega]
    refine ⟨ex, ?_⟩
    simp only [s_evIfS, s_evAndT, s_evTCmp, s_evVar, h17, h18, hE.h2, kVar_s, kTCmp_s, kTCmp2_s, e1, kTl_s, kAndT_s, if_true, s_evNotT, s_evTest, s_evCall, s_evCons, kCons_s, s_evNil, kCons2_s, kCall_s, hm, hw, hr, kTest_s, kNotT_s, Bool.not_true, kIfS_s, Bool.false_eq_true, if_false, s_evNx]
theorem v_cat (hE : EF ρ p f l e xs) (hC : Core p f l e xs μ) (hX : Xs xs) (a b : Nat) (h : (linesL xs).take a = (linesL xs).take a) (eb : EvO) (el : EvO) (h1 : el ρ μ = some (some ((a : Nat) : Int), μ)) (h2 : ∀ ex, eb ρ (μ ++ ex) = some (some ((b : Nat) : Int), μ ++ ex)) :
    ∃ ex, evMeth "str" dJoin (evC (.str "")) (evCons (evBin dAdd (evSl dSl (evVar 3) evONone el) (evSl dSl (evVar 3) eb evONone)) evNil) ρ μ = some (.str (S ((linesL xs).take a ++ (linesL xs).drop b).flatten), μ ++ ex) := by
  have hhi := hX.hi
  have hll := linesL_length xs
  have s1 := v_sl_loc (lo := none) (hi := some ((a : Nat) : Int)) hC.lines
  rw [cutD_b, ← List.map_take] at s1
  have hC1 := hC.ext [.lst (((linesL xs).take a).map fun q => D.str (S q))]
  have s2 := v_sl_loc (lo := some ((b : Nat) : Int)) (hi := none) hC1.lines
  rw [cutD_a, ← List.map_drop] at s2
  obtain ⟨μ1, e1⟩ : ∃ μ1, μ1 = μ ++ [MO.lst (((linesL xs).take a).map fun q => D.str (S q))] := ⟨_, rfl⟩
  have hb1 := h2 [MO.lst (((linesL xs).take a).map fun q => D.str (S q))]
  rw [← e1] at s1 s2 hb1
  have t1 : μ1[μ.length]? = some (.lst (((linesL xs).take a).map fun q => D.str (S q))) := by rw [e1]; exact get_last
  obtain ⟨μ2, e2⟩ : ∃ μ2, μ2 = μ1 ++ [MO.lst (((linesL xs).drop b).map fun q => D.str (S q))] := ⟨_, rfl⟩
  rw [← e2] at s2
  have t2 : μ2[μ.length]? = some (.lst (((linesL xs).take a).map fun q => D.str (S q))) := by rw [e2, List.getElem?_append_left (List.getElem?_eq_some_iff.mp t1).1]; exact t1
  have t3 : μ2[μ1.length]? = some (.lst (((linesL xs).drop b).map fun q => D.str (S q))) := by rw [e2]; exact get_last
  have ha := v_add_loc t2 t3 (by rw [List.length_map, List.length_map, List.length_take, List.length_drop, size_eq]; omega)
  rw [← List.map_append] at ha
  obtain ⟨μ3, e3⟩ : ∃ μ3, μ3 = μ2 ++ [MO.lst (((linesL xs).take a ++ (linesL xs).drop b).map fun q => D.str (S q))] := ⟨_, rfl⟩
  rw [← e3] at ha
  have hj := v_join (μ := μ3) (n := μ2.length) (k := []) (ls := (linesL xs).take a ++ (linesL xs).drop b) (by rw [e3]; exact get_last)
    (by
      have h1 := flat_le 1700 ((linesL xs).take a ++ (linesL xs).drop b) (fun z hz => by
        rcases List.mem_append.mp hz with hz | hz
        · exact linesL_le hX z (List.mem_of_mem_take hz)
        · exact linesL_le hX z (List.mem_of_mem_drop hz))
      have h3 : ((linesL xs).take a ++ (linesL xs).drop b).length ≤ 60 := by rw [List.length_append, List.length_take, List.length_drop]; omega
      rw [List.length_flatten] at h1
      have h2 : 1700 * ((linesL xs).take a ++ (linesL xs).drop b).length ≤ 1700 * 60 := Nat.mul_le_mul_left _ h3
      simp only [List.length_nil]
      omega)
  rw [joinL_nil] at hj
  refine ⟨[MO.lst (((linesL xs).take a).map fun q => D.str (S q))] ++ [MO.lst (((linesL xs).drop b).map fun q => D.str (S q))] ++ [MO.lst (((linesL xs).take a ++ (linesL xs).drop b).map fun q => D.str (S q))], ?_⟩
  have hfin : μ ++ ([MO.lst (((linesL xs).take a).map fun q => D.str (S q))] ++ [MO.lst (((linesL xs).drop b).map fun q => D.str (S q))] ++ [MO.lst (((linesL xs).take a ++ (linesL xs).drop b).map fun q => D.str (S q))]) = μ3 := by rw [e3, e2, e1]; simp
  rw [hfin]
  simp only [s_evMeth, s_evC, kMe_s, isTy_str, if_true, s_evCons, s_evBin, s_evSl, s_evVar, hE.h3, kVar_s, kSl_s, s_evONone, kSl2_s, h1, kSl3_s, s1, kBin_s, hb1, s2, kBin2_s, ha, kCons_s, s_evNil, kCons2_s, kMe2_s, l_em, hj]
end
end K73
set_option Elab.async false
set_option linter.all false
set_option maxRecDepth 100000
namespace K73
open PySem PySem.Spec PyProof.Rows L2 PDL SX Tel
section
variable {ρ : PDL.Env} {p f l e : Nat} {xs : List Rec} {μ : Store}
theorem v_tw (hE : EF ρ p f l e xs) (hC : Core p f l e xs μ) (hX : Xs xs) {a : Nat} (h17 : ρ[17]? = some (some (.int ((a : Nat) : Int)))) : ∃ ex, ev_tw ρ μ = some (.str (S ((linesL xs).take (a + 1) ++ (linesL xs).drop a).flatten), μ ++ ex) := by
  unfold ev_tw
  exact v_cat hE hC hX (a + 1) a rfl _ _ (by simp only [s_evOSome, s_evBin, s_evVar, h17, kVar_s, kBin_s, s_evC, kBin2_s, v_add_int, kOSome_s]; rfl) (fun ex => by simp only [s_evOSome, s_evVar, h17, kVar_s, kOSome_s])
theorem v_ls (hE : EF ρ p f l e xs) (hC : Core p f l e xs μ) (hX : Xs xs) {a : Nat} (h17 : ρ[17]? = some (some (.int ((a : Nat) : Int)))) : ∃ ex, ev_ls ρ μ = some (.str (S ((linesL xs).take a ++ (linesL xs).drop (a + 1)).flatten), μ ++ ex) := by
  unfold ev_ls
  exact v_cat hE hC hX a (a + 1) rfl _ _ (by simp only [s_evOSome, s_evVar, h17, kVar_s, kOSome_s]) (fun ex => by simp only [s_evOSome, s_evBin, s_evVar, h17, kVar_s, kBin_s, s_evC, kBin2_s, v_add_int, kOSome_s]; rfl)
theorem v_s10 (hE : EF ρ p f l e xs) (hC : Core p f l e xs μ) (hX : Xs xs) {a : Nat} (ha : a < xs.length) (h17 : ρ[17]? = some (some (.int ((a : Nat) : Int)))) : ∃ ex, ev_s10 ρ μ = some (.nx, ρ, μ ++ ex) := by
  obtain ⟨ex1, w1⟩ := v_tw hE hC hX h17
  have hC1 := hC.ext ex1
  have r1 := right_twice hC1 hX a ha
  obtain ⟨ex2, w2⟩ := v_ls hE hC1 hX h17
  have r2 := right_less (hC1.ext ex2) hX a ha
  refine ⟨ex1 ++ ex2, ?_⟩
  rw [← List.append_assoc]
  have hadd : ((a : Nat) : Int) + 1 = ((a + 1 : Nat) : Int) := by omega
  unfold ev_s10
  simp only [s_evIfS, s_evOrT, s_evNotT, s_evTest, s_evCall, s_evCons, s_evVar, hE.h2, h17, kVar_s, kCons_s, s_evBin, kBin_s, s_evC, kBin2_s, v_add_int, hadd, w1, s_evNil, kCons2_s, kCall_s, r1, kTest_s, kNotT_s, Bool.not_true, kOrT_s, Bool.false_eq_true, if_false, w2, r2, kIfS_s, s_evNx]
theorem l_xx : Str.ofString "x" = S [120] := by decide +kernel
theorem v_s11 (hE : EF ρ p f l e xs) (hC : Core p f l e xs μ) (hX : Xs xs) : ev_s11 ρ μ = some (.nx, ρ.set 19 (some (.str (S (line (xs.length : Nat) (.inp [120]))))), μ) := by
  have hhi := hX.hi
  have hn : isN ((xs.length : Nat) : Int) = true := by
    unfold isN
    rw [decide_eq_true (by omega), decide_eq_true (by omega)]
    rfl
  have hlen := v_len_loc hC.recs
  rw [List.length_map] at hlen
  have h := v_record_line (xs.length : Nat) (.inp [120]) μ hn xx_ok.1 xx_ok.2
  have hd : (Rec.inp [120]).d = .tup [.str (Str.ofString "inputs"), .str (S [120])] := rfl
  rw [hd] at h
  unfold ev_s11
  simp only [s_evAsg, s_evCall, s_evCons, s_evVar, hE.h2, kVar_s, kCons_s, s_evNil, kCons2_s, kCall_s, hlen, s_evTup, s_evC, kTup_s, List.length_cons, List.length_nil, if_pos (show (0 + 1 + 1 : Nat) ≤ sizeLine by rw [size_eq]; decide), l_xx, h, kAsg_s, s_egName, kAsg2_s]
theorem v_s12b (hE : EF ρ p f l e xs) (hC : Core p f l e xs μ) (hX : Xs xs) (h19 : ρ[19]? = some (some (.str (S (line (xs.length : Nat) (.inp [120])))))) : ev_s12 ρ μ = some (.nx, ρ, μ) := by
  have hhi := hX.hi
  have hs := hX.small
  obtain ⟨q1, q2⟩ := late_facts xs.length hhi
  have hlen := v_len_loc hC.recs
  rw [List.length_map] at hlen
  have a1 := v_add_str (μ := μ) (l := T xs) (m := line (xs.length : Nat) (.inp [120])) (by rw [size_eq]; omega)
  have a2 := v_add_str (μ := μ) (l := T xs) (m := [10]) (by rw [size_eq, List.length_singleton]; omega)
  have a3 := v_add_str (μ := μ) (l := T xs ++ [10]) (m := line (xs.length : Nat) (.inp [120])) (by rw [size_eq, List.length_append, List.length_singleton]; omega)
  have r1 := right_late hC hX
  have r2 := right_gap hC hX
  unfold ev_s12
  simp only [s_evIfS, s_evOrT, s_evNotT, s_evTest, s_evCall, s_evCons, s_evVar, hE.h2, hE.h4, h19, kVar_s, kCons_s, s_evBin, kBin_s, s_evC, kBin2_s, hlen, l_nl, a1, a2, a3, s_evNil, kCons2_s, kCall_s, r1, kTest_s, kNotT_s, Bool.not_true, kOrT_s, Bool.false_eq_true, if_false, r2, kIfS_s, s_evNx]
theorem v_s13 : ∃ μ', ev_s13 ρ μ = some (.rt (.bl true), ρ, μ') := by
  have h1 := v_sum_of [] μ (by decide)
  have hs : sumI [] = 1 := by decide +kernel
  rw [hs] at h1
  have hrej : Rej [] [10] := rej_line (recs := []) (p := []) (q := []) (by simp) fun r hr => acc_nil hr
  obtain ⟨more, at_, k1, k2, k3, k4⟩ := v_read [] [10] μ (by simp) (fun i r h => by simp at h) (by intro c hc; simp [linesL] at hc; omega) (by simp [linesL])
  obtain ⟨k5, k6⟩ := k4 hrej
  subst k5
  have e0 : (linesL []).flatten ++ [10] = [10] := rfl
  have e6 : at_ = 0 := by rw [k6]; rfl
  subst e6
  rw [e0] at k1
  have k1' : m_read_journal [.str (S [10])] μ = some (.tup [.loc μ.length, .int 0], μ ++ [.lst []]) := k1
  obtain ⟨μ1, e1⟩ : ∃ μ1, μ1 = μ ++ [MO.lst []] := ⟨_, rfl⟩
  rw [← e1] at k1'
  have g1 : (μ1 ++ [MO.lst []])[μ.length]? = some (.lst []) := by
    rw [e1, List.getElem?_append_left (by simp)]
    exact get_last
  have g2 : (μ1 ++ [MO.lst []])[μ1.length]? = some (.lst []) := get_last
  have py1 : ∀ n : Nat, (μ1 ++ [MO.lst []])[n]? = some (.lst []) → py (μ1 ++ [MO.lst []]) (.tup [.loc n, .int 0]) = some (.tuple [.list [], .int 0]) := by
    intro n hn
    show (pysM (μ1 ++ [MO.lst []]) [.loc n, .int 0]).map PyData.tuple = _
    simp [pysM, py0, hn]
  have hq : dEqv false (.tup [.loc μ.length, .int 0]) (.tup [.loc μ1.length, .int 0]) (μ1 ++ [MO.lst []]) = some true := by
    rw [v_eq (py1 _ g1) (py1 _ g2) (by decide) (by decide) (by decide)]
    decide
  refine ⟨μ1 ++ [MO.lst []], ?_⟩
  have h2 : m_sum_of [.str (S [])] μ = some (.int 1, μ) := h1
  unfold ev_s13
  simp only [s_evRet, s_evAnd, s_evCmp, s_evCall, s_evCons, s_evC, kCons_s, s_evNil, kCons2_s, kCall_s, l_em, l_nl, h2, kCmp_s, kCmp2_s, PDL.v_eq_int, decide_true, Bool.false_eq_true, if_false, kBl_s, kAnd_s, if_true, k1', s_evTup, s_evLst, kLst_s, List.length_nil, List.length_cons, Nat.zero_le, kTup_s, if_pos (show (0 + 1 + 1 : Nat) ≤ sizeLine by rw [size_eq]; decide), hq, kRet_s]
end
end K73
set_option Elab.async false
set_option linter.all false
set_option maxRecDepth 100000
namespace K73
open PySem PySem.Spec PyProof.Rows L2 PDL SX Tel
noncomputable def m_law := runF N_law (ev_law m__law_pot m__law_records m__law_pick m_record_line m_journal_text m__law_draw m__law_is_right m_read_journal m_sum_of m_read_journal) 1
theorem ev_law_eq : ev_law m__law_pot m__law_records m__law_pick m_record_line m_journal_text m__law_draw m__law_is_right m_read_journal m_sum_of m_read_journal = evSeq ev_s1 (evSeq ev_s2 (evSeq ev_s3 (evSeq ev_s4 (evSeq ev_s5 (evSeq ev_s6 (evSeq ev_s7 (evSeq ev_s8 (evSeq ev_s9 (evSeq ev_s10 (evSeq ev_s11 (evSeq ev_s12 ev_s13))))))))))) := rfl
theorem v_law (ns : List Int) (μ : Store) : ∃ μ', m_law [.rl (ns.map .int)] μ = some (.bl true, μ') := by
  obtain ⟨p, f, xs, μ1, hX, p1, p2, p3, p4⟩ := v_s12 ns μ
  obtain ⟨l, e, μ2, a1, a2, a3, a4, a5, a6, a7, a8, a9⟩ := v_s34 xs hX (.rl (ns.map .int)) p f μ1 p1 p2 p3
  obtain ⟨ρ3, μ3, hE3, hC3, b3⟩ := v_s56 xs hX (.rl (ns.map .int)) p f l e μ2 a1 p2 a2 a3 a4 a5 a6 a7 a8
  obtain ⟨ρ4, μ4, b4, hE4, hC4⟩ := v_s7 hE3 hC3 hX
  obtain ⟨a, b, ρ5, μ5, b5, hE5, hC5, ha, hb, h17, h18⟩ := v_s8 hE4 hC4 hX
  obtain ⟨ex6, b6⟩ := v_s9 hE5 hC5 hX ha hb h17 h18
  have hC6 := hC5.ext ex6
  obtain ⟨ex7, b7⟩ := v_s10 hE5 hC6 hX ha h17
  have hC7 := hC6.ext ex7
  have b8 := v_s11 hE5 hC7 hX
  have hE8 := hE5.set 19 (some (.str (S (line (xs.length : Nat) (.inp [120]))))) (by decide)
  have b9 := v_s12b hE8 hC7 hX (look_same (by rw [hE5.len]; decide))
  obtain ⟨μ9, b10⟩ := v_s13 (ρ := ρ5.set 19 (some (.str (S (line (xs.length : Nat) (.inp [120])))))) (μ := μ5 ++ ex6 ++ ex7)
  refine ⟨μ9, ?_⟩
  unfold m_law
  have e0 : startD N_law [.rl (ns.map .int)] = RR (some (.rl (ns.map .int))) none none none none none none none := rfl
  rw [s_runF, if_pos (show [D.rl (ns.map .int)].length = 1 from rfl), e0, ev_law_eq, p4, a9, b3, s_evSeq, b4, kSeq_n, s_evSeq, b5, kSeq_n, s_evSeq, b6, kSeq_n, s_evSeq, b7, kSeq_n, s_evSeq, b8, kSeq_n, s_evSeq, b9, kSeq_n, b10]
  rfl
end K73
set_option Elab.async false
set_option linter.all false
set_option maxRecDepth 100000
namespace K73
open PySem PySem.Spec PyProof.Rows L2 PDL SX Tel
theorem Has.nil {P : Program} {w : World} {K : PySem.W.Frag} {mg : Str → Option Value} {base : Heap} {x : Str} {st : Stmt} {N ps : List Str} (F : Df K mg x st) (S : FnScope N ps (defScope st))
    (hb : ∀ (kV doc pm : Value) (an : Option Addr) (cdv ct : Value) (us : List Value), us.length = ps.length → bindArgs (PySem.W.fnOf x x (defArgs st) (defBody st) (defScope st) .none kV doc pm an cdv ct) ⟨us, []⟩ = pure (ps.zip us)) : Has P w K mg base 1 x ps (fun _ _ => none) := by
  have h := Has.of (P := P) (w := w) (K := K) (mg := mg) (base := base) (k := 0) (ev := fun _ _ => none) F S hb fun f cdv A outer s H E hr => ⟨fun pins s σ H D I w => by
    obtain ⟨_, _, _, _, _, _, _, _, e, _⟩ := w
    cases e⟩
  exact h.gc (fun ds μ r e => by cases e) fun ds μ d μ1 _ _ _ e => by cases e
theorem HasK.mono {P : Program} {w : World} {K : PySem.W.Frag} {mg : Str → Option Value} {base : Heap} {j k : Nat} {x n : Str} {m : List D → Store → Option (D × Store)} (F : HasK P w K mg base j x n m) (h : j ≤ k) : HasK P w K mg base k x n m := by
  obtain ⟨f, fd, h1, h2, h3, h4⟩ := F
  exact ⟨f, fd, h1, h2, h3, h4.mono h⟩
theorem H__law_pot {P : Program} {w : World} {K : PySem.W.Frag} {mg : Str → Option Value} {base : Heap} (M : MF w K mg) : Has P w K mg base 1 "_law_pot" P__law_pot m__law_pot := (ok__law_pot (k := 0) M )
theorem H__law_draw {P : Program} {w : World} {K : PySem.W.Frag} {mg : Str → Option Value} {base : Heap} (M : MF w K mg) : Has P w K mg base 1 "_law_draw" P__law_draw m__law_draw := (ok__law_draw (k := 0) M )
theorem H__law_pick {P : Program} {w : World} {K : PySem.W.Frag} {mg : Str → Option Value} {base : Heap} (M : MF w K mg) : Has P w K mg base 2 "_law_pick" P__law_pick m__law_pick := (ok__law_pick (k := 1) M ((H__law_draw M).mono (by decide)))
theorem H__law_text {P : Program} {w : World} {K : PySem.W.Frag} {mg : Str → Option Value} {base : Heap} (M : MF w K mg) : Has P w K mg base 3 "_law_text" P__law_text m__law_text := (ok__law_text (k := 2) M ((H__law_draw M).mono (by decide)) ((H__law_pick M).mono (by decide)))
theorem H__law_data {P : Program} {w : World} {K : PySem.W.Frag} {mg : Str → Option Value} {base : Heap} (M : MF w K mg) : ∀ j : Nat, Has P w K mg base (j + 3) "_law_data" P__law_data (m__law_data j)
  | 0 => (Has.nil (ps := P__law_data) M.f__law_data S__law_data (fun _ _ _ _ _ _ us hl => match us, hl with | [_, _], _ => rfl)).mono (by omega)
  | j + 1 => (Has.mono (ok__law_data (k := j + 3) M ((H__law_draw M).mono (by omega)) ((H__law_pick M).mono (by omega)) (H__law_data M j)) (by omega))
theorem H__law_records {P : Program} {w : World} {K : PySem.W.Frag} {mg : Str → Option Value} {base : Heap} (M : MF w K mg) : Has P w K mg base 8 "_law_records" P__law_records m__law_records := (ok__law_records (k := 7) M ((H__law_text M).mono (by decide)) ((H__law_data M 4).mono (by decide)) ((H__law_draw M).mono (by decide)) ((H__law_pick M).mono (by decide)))
theorem H_is_integer {P : Program} {w : World} {K : PySem.W.Frag} {mg : Str → Option Value} {base : Heap} (M : MF w K mg) : Has P w K mg base 1 "is_integer" P_is_integer m_is_integer := (ok_is_integer (k := 0) M ).trim
theorem H_is_count {P : Program} {w : World} {K : PySem.W.Frag} {mg : Str → Option Value} {base : Heap} (M : MF w K mg) : Has P w K mg base 2 "is_count" P_is_count m_is_count := (ok_is_count (k := 1) M ((H_is_integer M).mono (by decide))).trim
theorem H_is_number {P : Program} {w : World} {K : PySem.W.Frag} {mg : Str → Option Value} {base : Heap} (M : MF w K mg) : Has P w K mg base 3 "is_number" P_is_number m_is_number := (ok_is_number (k := 2) M ((H_is_count M).mono (by decide))).trim
theorem H_is_row {P : Program} {w : World} {K : PySem.W.Frag} {mg : Str → Option Value} {base : Heap} (M : MF w K mg) : Has P w K mg base 1 "is_row" P_is_row m_is_row := (ok_is_row (k := 0) M ).trim
theorem H_is_text {P : Program} {w : World} {K : PySem.W.Frag} {mg : Str → Option Value} {base : Heap} (M : MF w K mg) : Has P w K mg base 1 "is_text" P_is_text m_is_text := (ok_is_text (k := 0) M ).trim
theorem H_has_signs {P : Program} {w : World} {K : PySem.W.Frag} {mg : Str → Option Value} {base : Heap} (M : MF w K mg) : Has P w K mg base 1 "has_signs" P_has_signs m_has_signs := (ok_has_signs (k := 0) M ).trim
theorem H_is_input_name {P : Program} {w : World} {K : PySem.W.Frag} {mg : Str → Option Value} {base : Heap} (M : MF w K mg) : Has P w K mg base 2 "is_input_name" P_is_input_name m_is_input_name := (ok_is_input_name (k := 1) M ((H_has_signs M).mono (by decide))).trim
theorem H_is_int {P : Program} {w : World} {K : PySem.W.Frag} {mg : Str → Option Value} {base : Heap} (M : MF w K mg) : Has P w K mg base 2 "is_int" P_is_int m_is_int := (ok_is_int (k := 1) M ((H_is_integer M).mono (by decide))).trim
theorem H_is_name {P : Program} {w : World} {K : PySem.W.Frag} {mg : Str → Option Value} {base : Heap} (M : MF w K mg) : Has P w K mg base 2 "is_name" P_is_name m_is_name := (ok_is_name (k := 1) M ((H_has_signs M).mono (by decide))).trim
theorem H_are_two_names {P : Program} {w : World} {K : PySem.W.Frag} {mg : Str → Option Value} {base : Heap} (M : MF w K mg) : Has P w K mg base 3 "are_two_names" P_are_two_names m_are_two_names := (ok_are_two_names (k := 2) M ((H_is_name M).mono (by decide))).trim
theorem H_is_sign {P : Program} {w : World} {K : PySem.W.Frag} {mg : Str → Option Value} {base : Heap} (M : MF w K mg) : Has P w K mg base 1 "is_sign" P_is_sign m_is_sign := (ok_is_sign (k := 0) M ).trim
theorem H_is_node {P : Program} {w : World} {K : PySem.W.Frag} {mg : Str → Option Value} {base : Heap} (M : MF w K mg) : Has P w K mg base 4 "is_node" P_is_node m_is_node := (ok_is_node (k := 3) M ((H_is_int M).mono (by decide)) ((H_is_name M).mono (by decide)) ((H_are_two_names M).mono (by decide)) ((H_is_sign M).mono (by decide)) ((H_is_input_name M).mono (by decide))).trim
theorem H_children_of {P : Program} {w : World} {K : PySem.W.Frag} {mg : Str → Option Value} {base : Heap} (M : MF w K mg) : Has P w K mg base 1 "children_of" P_children_of m_children_of := (ok_children_of (k := 0) M ).trim
theorem H_is_within {P : Program} {w : World} {K : PySem.W.Frag} {mg : Str → Option Value} {base : Heap} (M : MF w K mg) : Has P w K mg base 5 "is_within" P_is_within m_is_within := (ok_is_within (k := 4) M ((H_is_node M).mono (by decide)) ((H_children_of M).mono (by decide))).trim
theorem H_is_data_of {P : Program} {w : World} {K : PySem.W.Frag} {mg : Str → Option Value} {base : Heap} (M : MF w K mg) : Has P w K mg base 6 "is_data_of" P_is_data_of m_is_data_of := (ok_is_data_of (k := 5) M ((H_is_within M).mono (by decide)) ((H_children_of M).mono (by decide))).trim
theorem H_is_telling_of {P : Program} {w : World} {K : PySem.W.Frag} {mg : Str → Option Value} {base : Heap} (M : MF w K mg) : Has P w K mg base 5 "is_telling_of" P_is_telling_of m_is_telling_of := (ok_is_telling_of (k := 4) M ((H_is_node M).mono (by decide)) ((H_children_of M).mono (by decide))).trim
theorem H_is_record_of {P : Program} {w : World} {K : PySem.W.Frag} {mg : Str → Option Value} {base : Heap} (M : MF w K mg) : Has P w K mg base 7 "is_record_of" P_is_record_of m_is_record_of := (ok_is_record_of (k := 6) M ((H_is_row M).mono (by decide)) ((H_is_text M).mono (by decide)) ((H_is_input_name M).mono (by decide)) ((H_is_data_of M).mono (by decide)) ((H_is_telling_of M).mono (by decide)) ((H_is_number M).mono (by decide))).trim
theorem H_word_of {P : Program} {w : World} {K : PySem.W.Frag} {mg : Str → Option Value} {base : Heap} (M : MF w K mg) : ∀ j : Nat, Has P w K mg base (j + 1) "word_of" P_word_of (m_word_of j)
  | 0 => (Has.nil (ps := P_word_of) M.f_word_of S_word_of (fun _ _ _ _ _ _ us hl => match us, hl with | [_], _ => rfl)).mono (by omega)
  | j + 1 => (Has.mono (ok_word_of (k := j + 1) M (H_word_of M j)).trim (by omega))
theorem H_parts_of {P : Program} {w : World} {K : PySem.W.Frag} {mg : Str → Option Value} {base : Heap} (M : MF w K mg) : Has P w K mg base 10 "parts_of" P_parts_of m_parts_of := (ok_parts_of (k := 9) M ((H_word_of M 8).mono (by decide)))
theorem H_sum_of_signs {P : Program} {w : World} {K : PySem.W.Frag} {mg : Str → Option Value} {base : Heap} (M : MF w K mg) : Has P w K mg base 1 "sum_of_signs" P_sum_of_signs m_sum_of_signs := (ok_sum_of_signs (k := 0) M ).trim
theorem H_line_of {P : Program} {w : World} {K : PySem.W.Frag} {mg : Str → Option Value} {base : Heap} (M : MF w K mg) : Has P w K mg base 11 "line_of" P_line_of m_line_of := (ok_line_of (k := 10) M ((H_parts_of M).mono (by decide)) ((H_sum_of_signs M).mono (by decide))).trim
theorem H_record_line {P : Program} {w : World} {K : PySem.W.Frag} {mg : Str → Option Value} {base : Heap} (M : MF w K mg) : Has P w K mg base 12 "record_line" P_record_line m_record_line := (ok_record_line (k := 11) M ((H_is_number M).mono (by decide)) ((H_is_record_of M).mono (by decide)) ((H_line_of M).mono (by decide))).trim
theorem H_can_follow {P : Program} {w : World} {K : PySem.W.Frag} {mg : Str → Option Value} {base : Heap} (M : MF w K mg) : Has P w K mg base 1 "can_follow" P_can_follow m_can_follow := (ok_can_follow (k := 0) M ).trim
theorem H_follows {P : Program} {w : World} {K : PySem.W.Frag} {mg : Str → Option Value} {base : Heap} (M : MF w K mg) : Has P w K mg base 2 "follows" P_follows m_follows := (ok_follows (k := 1) M ((H_can_follow M).mono (by decide))).trim
theorem H_are_records_of {P : Program} {w : World} {K : PySem.W.Frag} {mg : Str → Option Value} {base : Heap} (M : MF w K mg) : Has P w K mg base 8 "are_records_of" P_are_records_of m_are_records_of := (ok_are_records_of (k := 7) M ((H_is_record_of M).mono (by decide)) ((H_follows M).mono (by decide))).trim
theorem H_journal_of {P : Program} {w : World} {K : PySem.W.Frag} {mg : Str → Option Value} {base : Heap} (M : MF w K mg) : Has P w K mg base 12 "journal_of" P_journal_of m_journal_of := (ok_journal_of (k := 11) M ((H_line_of M).mono (by decide))).trim
theorem H_journal_text {P : Program} {w : World} {K : PySem.W.Frag} {mg : Str → Option Value} {base : Heap} (M : MF w K mg) : Has P w K mg base 13 "journal_text" P_journal_text m_journal_text := (ok_journal_text (k := 12) M ((H_are_records_of M).mono (by decide)) ((H_journal_of M).mono (by decide))).trim
theorem H_int_from {P : Program} {w : World} {K : PySem.W.Frag} {mg : Str → Option Value} {base : Heap} (M : MF w K mg) : Has P w K mg base 3 "int_from" P_int_from m_int_from := (ok_int_from (k := 2) M ((H_is_int M).mono (by decide))).trim
theorem H_telling_from {P : Program} {w : World} {K : PySem.W.Frag} {mg : Str → Option Value} {base : Heap} (M : MF w K mg) : ∀ j : Nat, Has P w K mg base (j + 4) "telling_from" P_telling_from (m_telling_from j)
  | 0 => (Has.nil (ps := P_telling_from) M.f_telling_from S_telling_from (fun _ _ _ _ _ _ us hl => match us, hl with | [_, _, _], _ => rfl)).mono (by omega)
  | j + 1 => (Has.mono (ok_telling_from (k := j + 4) M ((H_int_from M).mono (by omega)) (H_telling_from M j)).trim (by omega))
theorem H_telling_by {P : Program} {w : World} {K : PySem.W.Frag} {mg : Str → Option Value} {base : Heap} (M : MF w K mg) : Has P w K mg base 66 "telling_by" P_telling_by m_telling_by := (ok_telling_by (k := 65) M ((H_telling_from M 61).mono (by decide))).trim
theorem H_number_by {P : Program} {w : World} {K : PySem.W.Frag} {mg : Str → Option Value} {base : Heap} (M : MF w K mg) : Has P w K mg base 1 "number_by" P_number_by m_number_by := (ok_number_by (k := 0) M ).trim
theorem H_record_by {P : Program} {w : World} {K : PySem.W.Frag} {mg : Str → Option Value} {base : Heap} (M : MF w K mg) : Has P w K mg base 67 "record_by" P_record_by m_record_by := (ok_record_by (k := 66) M ((H_telling_by M).mono (by decide)) ((H_number_by M).mono (by decide)) ((H_is_record_of M).mono (by decide))).trim
theorem H_record_in {P : Program} {w : World} {K : PySem.W.Frag} {mg : Str → Option Value} {base : Heap} (M : MF w K mg) : Has P w K mg base 68 "record_in" P_record_in m_record_in := (ok_record_in (k := 67) M ((H_sum_of_signs M).mono (by decide)) ((H_record_by M).mono (by decide))).trim
theorem H_read_of {P : Program} {w : World} {K : PySem.W.Frag} {mg : Str → Option Value} {base : Heap} (M : MF w K mg) : Has P w K mg base 69 "read_of" P_read_of m_read_of := (ok_read_of (k := 68) M ((H_record_in M).mono (by decide)) ((H_follows M).mono (by decide)))
theorem H_want_journal {P : Program} {w : World} {K : PySem.W.Frag} {mg : Str → Option Value} {base : Heap} (M : MF w K mg) : Has P w K mg base 1 "want_journal" P_want_journal m_want_journal := (ok_want_journal (k := 0) M ).trim
theorem H_read_journal {P : Program} {w : World} {K : PySem.W.Frag} {mg : Str → Option Value} {base : Heap} (M : MF w K mg) : Has P w K mg base 70 "read_journal" P_read_journal m_read_journal := (ok_read_journal (k := 69) M ((H_read_of M).mono (by decide)) ((H_want_journal M).mono (by decide)))
theorem HK_read_journal {P : Program} {w : World} {K : PySem.W.Frag} {mg : Str → Option Value} {base : Heap} (M : MF w K mg) : HasK P w K mg base 70 "read_journal" "text" m_read_journal := (okK_read_journal (k := 69) M ((H_read_of M).mono (by decide)) ((H_want_journal M).mono (by decide)))
theorem H_are_records {P : Program} {w : World} {K : PySem.W.Frag} {mg : Str → Option Value} {base : Heap} (M : MF w K mg) : Has P w K mg base 9 "are_records" P_are_records m_are_records := (ok_are_records (k := 8) M ((H_are_records_of M).mono (by decide))).trim
theorem H__law_is_right {P : Program} {w : World} {K : PySem.W.Frag} {mg : Str → Option Value} {base : Heap} (M : MF w K mg) : Has P w K mg base 71 "_law_is_right" P__law_is_right m__law_is_right := (ok__law_is_right (k := 70) M ((H_read_journal M).mono (by decide)) ((H_record_line M).mono (by decide)) ((H_are_records M).mono (by decide)) ((H_journal_text M).mono (by decide))).trim
theorem H_sum_of {P : Program} {w : World} {K : PySem.W.Frag} {mg : Str → Option Value} {base : Heap} (M : MF w K mg) : Has P w K mg base 2 "sum_of" P_sum_of m_sum_of := (ok_sum_of (k := 1) M ((H_sum_of_signs M).mono (by decide)) ((H_want_journal M).mono (by decide))).trim
theorem H_law {P : Program} {w : World} {K : PySem.W.Frag} {mg : Str → Option Value} {base : Heap} (M : MF w K mg) : Has P w K mg base 72 "law" P_law m_law := (ok_law (k := 71) M ((H__law_pot M).mono (by decide)) ((H__law_records M).mono (by decide)) ((H__law_pick M).mono (by decide)) ((H_record_line M).mono (by decide)) ((H_journal_text M).mono (by decide)) ((H__law_draw M).mono (by decide)) ((H__law_is_right M).mono (by decide)) ((H_read_journal M).mono (by decide)) ((H_sum_of M).mono (by decide)) (HasK.mono (HK_read_journal M) (by decide)))
end K73
set_option Elab.async false
set_option linter.all false
set_option maxRecDepth 100000
set_option maxHeartbeats 0
namespace K73
open PySem PySem.Spec PyProof.Rows L2 PDL HX
theorem reps_ints {K : PySem.W.Frag} {φ : List Addr} {H : Hp} : ∀ ns : List Int, Reps K φ H (ns.map .int) (ns.map V.int)
  | [] => .nil
  | n :: r => .cons (.int n) (reps_ints r)
theorem rl_of {K : PySem.W.Frag} {H : Hp} {a : Addr} {ns : List Int} (hO : Only H) (hS : SqL K H a (ns.map V.int)) : Rep K [] H (.rl (ns.map .int)) (.ref a) := by
  refine .rl (vs := ns.map V.int) ?_ (reps_ints ns)
  rcases hS with (h | h) | h
  · rcases hO a with q | ⟨o, xs, q⟩ <;> (rw [q] at h; cases h)
  · exact .inl h
  · exact .inr h
theorem str0 (K : PySem.W.Frag) (H : Hp) : StR K [] H [] := ⟨rfl, List.nodup_nil, fun n m e => by simp at e⟩
theorem sp_law {K : PySem.W.Frag} {H : Hp} {a : Addr} {ns : List Int} (hO : Only H) (hS : SqL K H a (ns.map V.int)) : spD K 1 m_law [.ref a] H (fun v _ => v = .bl true) fun _ _ _ => False := by
  obtain ⟨μ', e⟩ := v_law ns []
  refine ⟨[], [.rl (ns.map .int)], [], .bl true, μ', rfl, .cons (rl_of hO hS) .nil, str0 K H, e, fun v φ' H' b r => ?_⟩
  cases r
  rfl
theorem fin {w : World} {K : PySem.W.Frag} {h : Heap} {mg : Str → Option Value} {P : Program} {fa : Addr} (X : K.In h) (G : h.Ns mainGlobals mg) (hmg : mg "law" = some (.ref fa)) (c : He.SaysX fa_ fn_ ts_ [] ex_ w h K) :
    ∃ fd : FuncData, (∀ (s : Shared) (u : Value), BindsTo s fd ⟨[u], []⟩ [("script", u)]) ∧ ∀ base : Heap, K.In base → base.Ns mainGlobals mg → FnOk P w K mg base CX0 72 fa fd ["script"] (spD K 1 m_law) := by
  have M : MF w K mg := mf_of X G c
  obtain ⟨f, fd, hm, FD⟩ := M.f_law
  have e := hm.symm.trans hmg
  cases e
  have b := FunD.bindsA (ps := ["script"]) FD fun _ _ _ _ _ _ us hl => match us, hl with | [_], _ => rfl
  exact ⟨fd, fun s u => b s [u] rfl, fun base _ _ => fnD FD S_law rfl fun cdv A outer s H E hr =>
    b_law (k := 71) M ((H__law_pot M).mono (by decide)) ((H__law_records M).mono (by decide)) ((H__law_pick M).mono (by decide)) ((H_record_line M).mono (by decide)) ((H_journal_text M).mono (by decide)) ((H__law_draw M).mono (by decide)) ((H__law_is_right M).mono (by decide)) ((H_read_journal M).mono (by decide)) ((H_sum_of M).mono (by decide)) (HasK.mono (HK_read_journal M) (by decide)) _ cdv A outer s H E hr⟩
theorem d_eq : (HandSHeadRun.topDef R.prog 99).name = ("law" : PySem.Str) := by kernel_rfl
end K73
open PySem PySem.W PySem.Calls PyProof.Rows
theorem PySem.Challenge.cw_onlychanged_k73_whole_journals_cut_and_s_holds : PySem.Challenge.rw_onlychanged_k73_whole_journals_cut_and_s.Holds := by
  w_on; o_law
  refine HandSHeadRun.head_any (r := OpenLaw.row PySem.Challenge.rw_onlychanged_k73_whole_journals_cut_and_s) (q := K73.qv) (H := K73.hk) (ob := K73.ob) (M := 8000) (loose := K73.nm_) (d := HandSHeadRun.topDef K73.R.prog 99) (kwd := []) K73.ob_eq
    (by kernel_rfl) (fun s => by kernel_rfl) K73.run (by kernel_rfl) (by kernel_rfl) (by kernel_rfl) (by rfl) (by first | assumption | decide +kernel) (by decide +kernel) ⟨rfl, rfl, rfl, rfl, rfl, by decide +kernel⟩ ?hw ?hc
  case hw => w_witness2
  case hc =>
    refine L2.walk_ofE (l := PySem.Challenge.rw_onlychanged_k73_whole_journals_cut_and_s) (n := 63) (k := 72) (x := "script") (CX := L2.CX0) rfl (by decide) (by kernel_rfl) ⟨rfl, by decide, by decide⟩ ?F (fun _ _ _ _ z => z)
    intro w mg fa h Y G hmg0
    obtain ⟨K, KX, c⟩ := Y
    have hmg : mg ("law" : PySem.Str) = some (.ref fa) := by
      rw [← K73.d_eq]
      exact hmg0
    obtain ⟨fd, hb, hF⟩ := K73.fin (P := (PySem.Challenge.rw_onlychanged_k73_whole_journals_cut_and_s).prog) (w := w) KX G hmg c
    exact ⟨K, fd, PDL.spD K 1 K73.m_law, KX, hb, fun H a ns hl hO hS => K73.sp_law hO hS, hF⟩
