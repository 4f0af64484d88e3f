import PyProof.Rows.All
import HandS.ForMost
import HandS.ForExc
import HandS.Wide
import HandS.IsInst
import HandS.Flow
import HandS.Defaults
import HandS.CallSlots
import HandS.TupAny
import HandS.TupMul
import HandS.TupLe
import HandS.Deep
import PyProof.P3Eq
import PyProof.NeData
import PyProof.Claim2Refuses
import HandS.Text
import HandS.RaiseMore
import HandS.SortInts
import HandS.Conv
import PyProof.ListStr
import HandS.Dict
import HandS.ExcOwn
import PyProof.ReprRoads
import HandS.Iter
import HandS.Zip
import HandS.Comp
import HandS.More
import PyProof.StrOps2
import HandS.Head0
import HandS.Head1
import HandS.Head2
import HandS.HeadEnd
import HandS.HeadHook1
import HandS.HeadHook2
import HandS.EndBits
import PyProof.Rows.StrIntSpec
import KE.GoesMore
import KE.GoesEnum
import KE.KRevSl
import HandS.Strs
import PySem.Challenge.RW_knownstops_k63_codes_of_lines
set_option Elab.async false
set_option linter.all false
set_option maxRecDepth 100000
set_option maxHeartbeats 4000000
/-! DLa: data, cells, what stands for them, what an expression and a statement do (semantics by data). -/
namespace DL
open PySem PySem.Spec PyProof.Rows L2

abbrev PD := PyData
/-- a value: data that nobody changes any more, or a cell (a list that may be changed) -/
inductive D where
  | dat (p : PD)
  | ref (n : Nat)
abbrev Store := List (List PD)
abbrev DEnv := List (Option D)
/-- an exception: its class by name, its field, if it has one -/
structure Xn where
  cls : Str
  val : Option PD
inductive R (α : Type) where
  | ok (a : α) (S : Store)
  | exc (x : Xn) (S : Store)
  | bad
def R.bind {α β : Type} (r : R α) (f : α → Store → R β) : R β := match r with
  | .ok a S => f a S
  | .exc x S => .exc x S
  | .bad => .bad
theorem R.bind_ok {α β : Type} (a : α) (S : Store) (f : α → Store → R β) : (R.ok a S).bind f = f a S := rfl
theorem R.bind_exc {α β : Type} (x : Xn) (S : Store) (f : α → Store → R β) : (R.exc x S).bind f = .exc x S := rfl
theorem R.bind_bad {α β : Type} (f : α → Store → R β) : (R.bad : R α).bind f = .bad := rfl
abbrev M (α : Type) := Store → R α
def opt {α : Type} (o : Option α) (S : Store) : R α := match o with
  | some a => .ok a S
  | none => .bad
theorem opt_some {α : Type} (a : α) (S : Store) : opt (some a) S = .ok a S := rfl
theorem opt_none {α : Type} (S : Store) : opt (none : Option α) S = .bad := rfl

/-! ### what stands for data -/
/-- the addresses of the cells, and of what is hidden (a comprehension's list while it grows) -/
structure Wd where
  c : List Addr
  z : List Addr
def Wd.out (w : Wd) (a : Addr) : Prop := a ∉ w.c ∧ a ∉ w.z
def KT (K : PySem.W.Frag) (a : Addr) (xs : List V) : Prop := ∃ (o : Obj) (its : Array Value) (n : Nat), K.lookup a = some o ∧ o.cls = .type "tuple" ∧ o.data = .seq its n ∧ its.size ≤ sizeLine ∧ Vals xs its.toList
def KL (K : PySem.W.Frag) (a : Addr) (xs : List V) : Prop := ∃ (its : List Value) (n : Nat), K.lookup a = some { cls := .type "list", data := .seq its.toArray n } ∧ xs.length ≤ sizeLine ∧ Vals xs its
/-- a list that can be read: tracked, or the module's own -/
def RdL (K : PySem.W.Frag) (H : Hp) (a : Addr) (xs : List V) : Prop := Rd H a (.lst xs) ∨ KL K a xs
theorem RdL.seq {K : PySem.W.Frag} {H : Hp} {a : Addr} {xs : List V} (h : RdL K H a xs) : SqL K H a xs := by
  rcases h with h | ⟨its, n, e, z, v⟩
  · exact .inl h
  · exact .inr ⟨_, its.toArray, n, e, rfl, rfl, rfl, by rw [List.size_toArray, ← v.length]; exact z, by simpa using v⟩
theorem RdL.ok {X : Cx} {pins : List (Addr × Obj)} {σ : L2.St} {H : Hp} {s : Shared} {a : Addr} {xs : List V} (I : Inv X pins σ H s) (h : RdL X.K H a xs) :
    xs.length ≤ sizeLine ∧ ∃ (its : List Value) (n : Nat), Vals xs its ∧ s.heap.get? a = some { cls := .type "list", data := .seq its.toArray n } := by
  rcases h with h | ⟨its, n, e, z, v⟩
  · exact h.ok I.hok
  · exact ⟨z, its, n, v, I.kIn _ _ e⟩
def FzL (K : PySem.W.Frag) (H : Hp) (w : Wd) (a : Addr) (xs : List V) : Prop := (Rd H a (.lst xs) ∧ w.out a) ∨ KL K a xs
theorem FzL.rd {K : PySem.W.Frag} {H : Hp} {w : Wd} {a : Addr} {xs : List V} (h : FzL K H w a xs) : RdL K H a xs := by
  rcases h with ⟨h, _⟩ | h
  · exact .inl h
  · exact .inr h
def FzT (K : PySem.W.Frag) (H : Hp) (w : Wd) (a : Addr) (xs : List V) : Prop := (Rd H a (.tup xs) ∧ w.out a) ∨ KT K a xs
/-- keys and values of a dict that is data: ints, texts, truths, None -/
inductive AtD : V → PD → Prop
  | non : AtD .non .none
  | bl (b : Bool) : AtD (.bl b) (.bool b)
  | int (i : Int) : AtD (.int i) (.int i)
  | str (x : Str) : AtD (.str x) (.str x)
def kP : Key → PD
  | .inl i => .int i
  | .inr x => .str x
inductive FzD : List (Key × V) → List (PD × PD) → Prop
  | nil : FzD [] []
  | cons {k : Key} {v : V} {d : PD} {kvs : List (Key × V)} {ds : List (PD × PD)} : AtD v d → FzD kvs ds → FzD ((k, v) :: kvs) ((kP k, d) :: ds)
mutual
inductive Fz (K : PySem.W.Frag) (H : Hp) (w : Wd) : V → PD → Prop
  | non : Fz K H w .non .none
  | bl (b : Bool) : Fz K H w (.bl b) (.bool b)
  | int (i : Int) : Fz K H w (.int i) (.int i)
  | str (x : Str) : Fz K H w (.str x) (.str x)
  | lst {a : Addr} {xs : List V} {ds : List PD} : FzL K H w a xs → FzA K H w xs ds → Fz K H w (.ref a) (.list ds)
  | tup {a : Addr} {xs : List V} {ds : List PD} : FzT K H w a xs → FzA K H w xs ds → Fz K H w (.ref a) (.tuple ds)
  | dic {a : Addr} {kvs : List (Key × V)} {ds : List (PD × PD)} : H a = some (.dK kvs) → w.out a → FzD kvs ds → Fz K H w (.ref a) (.dict ds)
inductive FzA (K : PySem.W.Frag) (H : Hp) (w : Wd) : List V → List PD → Prop
  | nil : FzA K H w [] []
  | cons {v : V} {vs : List V} {d : PD} {ds : List PD} : Fz K H w v d → FzA K H w vs ds → FzA K H w (v :: vs) (d :: ds)
end
/-- what is tracked and neither cell nor hidden stays so (the common ground of all that follows) -/
structure Mono (H : Hp) (w : Wd) (H' : Hp) (w' : Wd) : Prop where
  keep : ∀ a o, H a = some o → w.out a → H' a = some o ∧ w'.out a
theorem Rd.keep {H H' : Hp} {w w' : Wd} (e : Mono H w H' w') {a : Addr} {u : HO} (r : Rd H a u) (hn : w.out a) : Rd H' a u ∧ w'.out a := by
  rcases r with r | ⟨o, r⟩
  · exact ⟨.inl (e.keep _ _ r hn).1, (e.keep _ _ r hn).2⟩
  · exact ⟨.inr ⟨o, (e.keep _ _ r hn).1⟩, (e.keep _ _ r hn).2⟩
theorem FzL.mono {K : PySem.W.Frag} {H H' : Hp} {w w' : Wd} (e : Mono H w H' w') {a : Addr} {xs : List V} (h : FzL K H w a xs) : FzL K H' w' a xs := by
  rcases h with ⟨h, hn⟩ | h
  · exact .inl (Rd.keep e h hn)
  · exact .inr h
theorem FzT.mono {K : PySem.W.Frag} {H H' : Hp} {w w' : Wd} (e : Mono H w H' w') {a : Addr} {xs : List V} (h : FzT K H w a xs) : FzT K H' w' a xs := by
  rcases h with ⟨h, hn⟩ | h
  · exact .inl (Rd.keep e h hn)
  · exact .inr h
mutual
theorem Fz.mono {K : PySem.W.Frag} {H H' : Hp} {w w' : Wd} (e : Mono H w H' w') : ∀ {v : V} {d : PD}, Fz K H w v d → Fz K H' w' v d
  | _, _, .non => .non
  | _, _, .bl b => .bl b
  | _, _, .int i => .int i
  | _, _, .str x => .str x
  | _, _, .lst h a => .lst (h.mono e) (FzA.mono e a)
  | _, _, .tup h a => .tup (h.mono e) (FzA.mono e a)
  | _, _, .dic h n q => .dic (e.keep _ _ h n).1 (e.keep _ _ h n).2 q
theorem FzA.mono {K : PySem.W.Frag} {H H' : Hp} {w w' : Wd} (e : Mono H w H' w') : ∀ {vs : List V} {ds : List PD}, FzA K H w vs ds → FzA K H' w' vs ds
  | _, _, .nil => .nil
  | _, _, .cons a b => .cons (Fz.mono e a) (FzA.mono e b)
end
structure Ext (H : Hp) (w : Wd) (H' : Hp) (w' : Wd) : Prop where
  keep : ∀ a o, H a = some o → a ∉ w.c → H' a = some o
  new : ∀ a, a ∈ w'.c → a ∈ w.c ∨ H a = none
  pre : ∃ t, w'.c = w.c ++ t
  hid : w'.z = w.z
theorem Ext.refl (H : Hp) (w : Wd) : Ext H w H w := ⟨fun _ _ h _ => h, fun _ h => .inl h, ⟨[], by simp⟩, rfl⟩
theorem Ext.mono {H H' : Hp} {w w' : Wd} (e : Ext H w H' w') : Mono H w H' w' := by
  refine ⟨fun a o h hn => ⟨e.keep a o h hn.1, fun hm => ?_, by rw [e.hid]; exact hn.2⟩⟩
  rcases e.new a hm with z | z
  · exact hn.1 z
  · rw [h] at z; cases z
theorem Ext.trans {H H1 H2 : Hp} {w w1 w2 : Wd} (e : Ext H w H1 w1) (f : Ext H1 w1 H2 w2) : Ext H w H2 w2 := by
  have out : ∀ a o, H a = some o → a ∉ w.c → a ∉ w1.c := fun a o h hn hm => by
    rcases e.new a hm with z | z
    · exact hn z
    · rw [h] at z; cases z
  refine ⟨fun a o h hn => f.keep a o (e.keep a o h hn) (out a o h hn), fun a hm => ?_, ?_, f.hid.trans e.hid⟩
  · rcases f.new a hm with z | z
    · exact e.new a z
    · by_cases hn : a ∈ w.c
      · exact .inl hn
      · right
        cases q : H a with
        | none => rfl
        | some o =>
          have := e.keep a o q hn
          rw [z] at this; cases this
  · obtain ⟨t, q1⟩ := e.pre
    obtain ⟨u, q2⟩ := f.pre
    exact ⟨t ++ u, by rw [q2, q1, List.append_assoc]⟩
theorem Ext.same {H H' : Hp} {w : Wd} (h : Same H H') : Ext H w H' w := ⟨fun a o q _ => h a o q, fun _ q => .inl q, ⟨[], by simp⟩, rfl⟩
theorem FzL.seq {K : PySem.W.Frag} {H : Hp} {w : Wd} {a : Addr} {xs : List V} (h : FzL K H w a xs) : SqL K H a xs := h.rd.seq
theorem FzT.seq {K : PySem.W.Frag} {H : Hp} {w : Wd} {a : Addr} {xs : List V} (h : FzT K H w a xs) : SqT K H a xs := by
  rcases h with ⟨h, _⟩ | h
  · exact .inl h
  · exact .inr h
section
variable {K : PySem.W.Frag} {H H' : Hp} {w w' : Wd} {vs ws : List V} {ds es : List PD} {v : V} {d : PD}
theorem FzA.length : ∀ {vs : List V} {ds : List PD}, FzA K H w vs ds → vs.length = ds.length
  | _, _, .nil => rfl
  | _, _, .cons _ b => by rw [List.length_cons, List.length_cons, FzA.length b]
theorem FzA.get : ∀ {vs : List V} {ds : List PD} {i : Nat} {v : V}, FzA K H w vs ds → vs[i]? = some v → ∃ d, ds[i]? = some d ∧ Fz K H w v d
  | _, _, _, _, .nil, h => by simp at h
  | _, _, 0, _, .cons a _, h => by simp at h; subst h; exact ⟨_, rfl, a⟩
  | _, _, i + 1, v, .cons _ b, h => by
    obtain ⟨d, h1, h2⟩ := FzA.get (i := i) (v := v) b (by simpa using h)
    exact ⟨d, by simpa using h1, h2⟩
theorem FzA.get' : ∀ {vs : List V} {ds : List PD} {i : Nat} {d : PD}, FzA K H w vs ds → ds[i]? = some d → ∃ v, vs[i]? = some v ∧ Fz K H w v d
  | _, _, _, _, .nil, h => by simp at h
  | _, _, 0, _, .cons a _, h => by simp at h; subst h; exact ⟨_, rfl, a⟩
  | _, _, i + 1, d, .cons _ b, h => by
    obtain ⟨v, h1, h2⟩ := FzA.get' (i := i) (d := d) b (by simpa using h)
    exact ⟨v, by simpa using h1, h2⟩
theorem FzA.append : ∀ {vs : List V} {ds : List PD}, FzA K H w vs ds → FzA K H w ws es → FzA K H w (vs ++ ws) (ds ++ es)
  | _, _, .nil, h => h
  | _, _, .cons a b, h => .cons a (FzA.append b h)
theorem FzA.take : ∀ (n : Nat) {vs : List V} {ds : List PD}, FzA K H w vs ds → FzA K H w (vs.take n) (ds.take n)
  | 0, _, _, _ => by simpa using FzA.nil
  | _ + 1, _, _, .nil => .nil
  | n + 1, _, _, .cons a b => .cons a (FzA.take n b)
theorem FzA.drop : ∀ (n : Nat) {vs : List V} {ds : List PD}, FzA K H w vs ds → FzA K H w (vs.drop n) (ds.drop n)
  | 0, _, _, h => h
  | _ + 1, _, _, .nil => .nil
  | n + 1, _, _, .cons _ b => FzA.drop n b
theorem FzA.set : ∀ (n : Nat) {vs : List V} {ds : List PD}, Fz K H w v d → FzA K H w vs ds → FzA K H w (vs.set n v) (ds.set n d)
  | _, _, _, _, .nil => .nil
  | 0, _, _, h, .cons _ b => .cons h b
  | n + 1, _, _, h, .cons a b => .cons a (FzA.set n h b)
theorem FzA.eraseIdx : ∀ (n : Nat) {vs : List V} {ds : List PD}, FzA K H w vs ds → FzA K H w (vs.eraseIdx n) (ds.eraseIdx n)
  | _, _, _, .nil => .nil
  | 0, _, _, .cons _ b => b
  | n + 1, _, _, .cons a b => .cons a (FzA.eraseIdx n b)
theorem FzA.reverse (h : FzA K H w vs ds) : FzA K H w vs.reverse ds.reverse := by
  have gen : ∀ {vs ws : List V} {ds es : List PD}, FzA K H w vs ds → FzA K H w ws es → FzA K H w (vs.reverseAux ws) (ds.reverseAux es) := by
    intro vs
    induction vs with
    | nil => intro ws ds es h q; cases h; exact q
    | cons x r ih =>
      intro ws ds es h q
      cases h with
      | cons a b => have z := ih b (FzA.cons a q); exact z
  exact gen h .nil
theorem FzA.rep (h : FzA K H w vs ds) : ∀ k : Nat, FzA K H w (List.replicate k vs).flatten (List.replicate k ds).flatten
  | 0 => .nil
  | k + 1 => by simpa [List.replicate_succ] using h.append (FzA.rep h k)
end

/-! ### cells, names -/
def CellR (K : PySem.W.Frag) (H : Hp) (w : Wd) (a : Addr) (ds : List PD) : Prop := ∃ vs, H a = some (.lst vs) ∧ FzA K H w vs ds
structure Stt (K : PySem.W.Frag) (H : Hp) (w : Wd) (S : Store) : Prop where
  nd : w.c.Nodup
  len : w.c.length = S.length
  cel : ∀ (n : Nat) (a : Addr) (ds : List PD), w.c[n]? = some a → S[n]? = some ds → CellR K H w a ds
  hid : ∀ a, a ∈ w.z → a ∉ w.c ∧ H a ≠ none
def RepD (K : PySem.W.Frag) (H : Hp) (w : Wd) (v : V) : D → Prop
  | .dat p => Fz K H w v p
  | .ref n => ∃ a, w.c[n]? = some a ∧ v = .ref a
theorem RepD.mono {K : PySem.W.Frag} {H H' : Hp} {w w' : Wd} (e : Ext H w H' w') {v : V} {d : D} (h : RepD K H w v d) : RepD K H' w' v d := by
  cases d with
  | dat p => exact Fz.mono e.mono h
  | ref n =>
    obtain ⟨a, h1, h2⟩ := h
    obtain ⟨t, q⟩ := e.pre
    refine ⟨a, ?_, h2⟩
    rw [q, List.getElem?_append_left]
    · exact h1
    · exact (List.getElem?_eq_some_iff.mp h1).1
/-- as Ext, but what is hidden may differ -/
structure Far (H : Hp) (w : Wd) (H' : Hp) (w' : Wd) : Prop where
  mono : Mono H w H' w'
  pre : ∃ t, w'.c = w.c ++ t
theorem Ext.far {H H' : Hp} {w w' : Wd} (e : Ext H w H' w') : Far H w H' w' := ⟨e.mono, e.pre⟩
theorem RepD.far {K : PySem.W.Frag} {H H' : Hp} {w w' : Wd} (e : Far H w H' w') {v : V} {d : D} (h : RepD K H w v d) : RepD K H' w' v d := by
  cases d with
  | dat p => exact Fz.mono e.mono h
  | ref n =>
    obtain ⟨a, h1, h2⟩ := h
    obtain ⟨t, q⟩ := e.pre
    refine ⟨a, ?_, h2⟩
    rw [q, List.getElem?_append_left]
    · exact h1
    · exact (List.getElem?_eq_some_iff.mp h1).1
structure EnvR (K : PySem.W.Frag) (H : Hp) (w : Wd) (σ : L2.St) (δ : DEnv) : Prop where
  len : δ.length = σ.length
  val : ∀ (i : Nat) (d : D), δ[i]? = some (some d) → ∃ v, σ[i]? = some (some v) ∧ RepD K H w v d
theorem EnvR.mono {K : PySem.W.Frag} {H H' : Hp} {w w' : Wd} (e : Ext H w H' w') {σ : L2.St} {δ : DEnv} (h : EnvR K H w σ δ) : EnvR K H' w' σ δ :=
  ⟨h.len, fun i d q => let ⟨v, a, b⟩ := h.val i d q; ⟨v, a, b.mono e⟩⟩
theorem EnvR.far {K : PySem.W.Frag} {H H' : Hp} {w w' : Wd} (e : Far H w H' w') {σ : L2.St} {δ : DEnv} (h : EnvR K H w σ δ) : EnvR K H' w' σ δ :=
  ⟨h.len, fun i d q => let ⟨v, a, b⟩ := h.val i d q; ⟨v, a, b.far e⟩⟩
theorem EnvR.set {K : PySem.W.Frag} {H : Hp} {w : Wd} {σ : L2.St} {δ : DEnv} (h : EnvR K H w σ δ) {v : V} {d : D} (i : Nat) (r : RepD K H w v d) : EnvR K H w (σ.set i (some v)) (δ.set i (some d)) := by
  refine ⟨by rw [List.length_set, List.length_set]; exact h.len, fun j e q => ?_⟩
  by_cases hj : i = j
  · subst hj
    by_cases hl : i < δ.length
    · rw [List.getElem?_set_self hl] at q
      cases q
      exact ⟨v, List.getElem?_set_self (by rw [← h.len]; exact hl), r⟩
    · rw [List.getElem?_eq_none (by simpa using Nat.le_of_not_lt hl)] at q; cases q
  · rw [List.getElem?_set_ne hj] at q
    obtain ⟨u, a, b⟩ := h.val j e q
    exact ⟨u, by rw [List.getElem?_set_ne hj]; exact a, b⟩
theorem EnvR.unset {K : PySem.W.Frag} {H : Hp} {w : Wd} {σ : L2.St} {δ : DEnv} (h : EnvR K H w σ δ) (i : Nat) {o : Option V} : EnvR K H w (σ.set i o) (δ.set i none) := by
  refine ⟨by rw [List.length_set, List.length_set]; exact h.len, fun j e q => ?_⟩
  by_cases hj : i = j
  · subst hj
    by_cases hl : i < δ.length
    · rw [List.getElem?_set_self hl] at q
      cases q
    · rw [List.getElem?_eq_none (by simpa using Nat.le_of_not_lt hl)] at q; cases q
  · rw [List.getElem?_set_ne hj] at q
    obtain ⟨u, a, b⟩ := h.val j e q
    exact ⟨u, by rw [List.getElem?_set_ne hj]; exact a, b⟩
theorem nodup_get {l : List Addr} (h : l.Nodup) : ∀ {n m : Nat} {a : Addr}, l[n]? = some a → l[m]? = some a → n = m := by
  induction l with
  | nil => intro n m a h1; simp at h1
  | cons x r ih =>
    intro n m a h1 h2
    obtain ⟨hx, hr⟩ := List.nodup_cons.mp h
    cases n with
    | zero =>
      cases m with
      | zero => rfl
      | succ m =>
        simp at h1 h2; subst h1
        exact absurd (List.mem_of_getElem? h2) hx
    | succ n =>
      cases m with
      | zero =>
        simp at h1 h2; subst h2
        exact absurd (List.mem_of_getElem? h1) hx
      | succ m =>
        simp at h1 h2
        rw [ih hr h1 h2]
section
variable {K : PySem.W.Frag} {H H' : Hp} {w : Wd} {S : Store}
theorem Stt.mem (st : Stt K H w S) {a : Addr} (h : a ∈ w.c) : ∃ (n : Nat) (ds : List PD) (vs : List V), w.c[n]? = some a ∧ S[n]? = some ds ∧ H a = some (.lst vs) ∧ FzA K H w vs ds := by
  obtain ⟨n, hn⟩ := List.getElem?_of_mem h
  have hl : n < S.length := by rw [← st.len]; exact (List.getElem?_eq_some_iff.mp hn).1
  obtain ⟨vs, h1, h2⟩ := st.cel n a _ hn (List.getElem?_eq_getElem hl)
  exact ⟨n, _, vs, hn, List.getElem?_eq_getElem hl, h1, h2⟩
theorem Stt.fresh (st : Stt K H w S) {p : Addr} (h : H p = none) : w.out p := by
  refine ⟨fun hm => ?_, fun hm => (st.hid p hm).2 h⟩
  obtain ⟨_, _, _, _, _, q, _⟩ := st.mem hm
  rw [h] at q; cases q
theorem Stt.same (st : Stt K H w S) (s : Same H H') : Stt K H' w S :=
  ⟨st.nd, st.len, fun n a ds h1 h2 => let ⟨vs, q1, q2⟩ := st.cel n a ds h1 h2; ⟨vs, s _ _ q1, q2.mono (Ext.same s).mono⟩, fun a ha => ⟨(st.hid a ha).1, fun e => by
    cases q : H a with
    | none => exact (st.hid a ha).2 q
    | some o => rw [s _ _ q] at e; cases e⟩⟩
/-- a new object that is no cell -/
theorem same_new {p : Addr} {o : HO} (h : H p = none) : Same H (upd H p o) := fun b x e => by
  rw [upd_ne (ne_of_none e h)]; exact e
/-- a cell is written -/
theorem Stt.write (st : Stt K H w S) {n : Nat} {a : Addr} {vs : List V} {ds : List PD} (hn : w.c[n]? = some a) (hf : FzA K H w vs ds) :
    Ext H w (upd H a (.lst vs)) w ∧ Stt K (upd H a (.lst vs)) w (S.set n ds) := by
  have hm : a ∈ w.c := List.mem_of_getElem? hn
  have ex : Ext H w (upd H a (.lst vs)) w := ⟨fun b o h hb => by rw [upd_ne (fun e => hb (by rw [e]; exact hm))]; exact h, fun _ h => .inl h, ⟨[], by simp⟩, rfl⟩
  refine ⟨ex, st.nd, by rw [List.length_set]; exact st.len, fun m b es h1 h2 => ?_, fun b hb => ⟨(st.hid b hb).1, ?_⟩⟩
  · by_cases he : n = m
    · subst he
      rw [hn] at h1; cases h1
      have hl : n < S.length := by rw [← st.len]; exact (List.getElem?_eq_some_iff.mp hn).1
      rw [List.getElem?_set_self hl] at h2; cases h2
      exact ⟨vs, upd_same, hf.mono ex.mono⟩
    · rw [List.getElem?_set_ne he] at h2
      obtain ⟨ws, q1, q2⟩ := st.cel m b es h1 h2
      have hne : b ≠ a := fun e => by
        subst e
        exact he (nodup_get st.nd hn h1)
      exact ⟨ws, by rw [upd_ne hne]; exact q1, q2.mono ex.mono⟩
  · rw [upd_ne (fun e => (st.hid b hb).1 (by rw [e]; exact hm))]
    exact (st.hid b hb).2
/-- a new list becomes a cell -/
theorem Stt.alloc (st : Stt K H w S) {p : Addr} {vs : List V} {ds : List PD} (hp : H p = none) (hf : FzA K H w vs ds) :
    Ext H w (upd H p (.lst vs)) ⟨w.c ++ [p], w.z⟩ ∧ Stt K (upd H p (.lst vs)) ⟨w.c ++ [p], w.z⟩ (S ++ [ds]) := by
  have hn := st.fresh hp
  have ex : Ext H w (upd H p (.lst vs)) ⟨w.c ++ [p], w.z⟩ := ⟨fun a o h _ => same_new hp a o h, fun a h => by
    rcases List.mem_append.mp h with z | z
    · exact .inl z
    · rw [List.mem_singleton] at z; subst z; exact .inr hp, ⟨[p], rfl⟩, rfl⟩
  refine ⟨ex, ?_, by rw [List.length_append, List.length_append, st.len]; rfl, fun n a es h1 h2 => ?_, fun b hb => ⟨fun hm => ?_, ?_⟩⟩
  · rw [List.nodup_append]
    refine ⟨st.nd, by simp, fun a ha b hb e => ?_⟩
    rw [List.mem_singleton] at hb
    subst hb; subst e
    exact hn.1 ha
  · by_cases hl : n < w.c.length
    · rw [List.getElem?_append_left hl] at h1
      rw [List.getElem?_append_left (by rw [← st.len]; exact hl)] at h2
      obtain ⟨ws, q1, q2⟩ := st.cel n a es h1 h2
      exact ⟨ws, same_new hp _ _ q1, q2.mono ex.mono⟩
    · rw [List.getElem?_append_right (Nat.le_of_not_lt hl)] at h1
      rw [List.getElem?_append_right (by rw [← st.len]; exact Nat.le_of_not_lt hl), ← st.len] at h2
      cases hm : n - w.c.length with
      | zero =>
        rw [hm] at h1 h2
        simp at h1 h2
        subst h1; subst h2
        exact ⟨vs, upd_same, hf.mono ex.mono⟩
      | succ m => rw [hm] at h1; simp at h1
  · rcases List.mem_append.mp hm with z | z
    · exact (st.hid b hb).1 z
    · rw [List.mem_singleton] at z; subst z
      exact (st.hid b hb).2 hp
  · by_cases e : b = p
    · subst e; rw [upd_same]; exact Option.some_ne_none _
    · rw [upd_ne e]; exact (st.hid b hb).2
end
end DL

set_option Elab.async false
set_option linter.all false
set_option maxRecDepth 100000
set_option maxHeartbeats 4000000
/-! DLb: readings by data; expressions. -/
namespace DL
open PySem PySem.Spec PyProof.Rows L2

/-- how an exception is told: its class stands as K's name says, its dict holds the field -/
structure ExcR (G : Str → Option Value) (K : PySem.W.Frag) (H : Hp) (w : Wd) (cls : Value) (dx : Option Addr) (x : Xn) : Prop where
  cls : G x.cls = some cls
  val : ∀ p, x.val = some p → ∃ d v, dx = some d ∧ H d = some (.xd [("value", v)]) ∧ w.out d ∧ Fz K H w v p
  non : x.val = none → dx = none

section
variable (G : Str → Option Value) (K : PySem.W.Frag) (W : WX) (σ : L2.St)
/-- what must hold so that a run by data ends as Q wants -/
def PostG {α ν : Type} (Rp : Hp → Wd → ν → α → Prop) (H : Hp) (w : Wd) (r : R α) (Q : ν → Hp → Prop) : Prop := match r with
  | .ok d S' => ∀ v H' w', Ext H w H' w' → Stt K H' w' S' → Rp H' w' v d → Q v H'
  | .exc x S' => ∀ cls dx H' w', Ext H w H' w' → Stt K H' w' S' → ExcR G K H' w' cls dx x → W cls dx σ H'
  | .bad => False
end
section
variable {G : Str → Option Value} {K : PySem.W.Frag} {W : WX} {σ : L2.St} {α β ν μ : Type} {Rp : Hp → Wd → ν → α → Prop} {Rq : Hp → Wd → μ → β → Prop} {H H1 : Hp} {w w1 : Wd} {r : R α}
theorem PostG.ext {Q : ν → Hp → Prop} (h : PostG G K W σ Rp H w r Q) (e : Ext H w H1 w1) : PostG G K W σ Rp H1 w1 r Q := by
  cases r with
  | ok d S' => exact fun v H' w' e' => h v H' w' (e.trans e')
  | exc x S' => exact fun c dx H' w' e' => h c dx H' w' (e.trans e')
  | bad => exact h
theorem PostG.bind {f : α → Store → R β} {Q : μ → Hp → Prop} {Q' : ν → Hp → Prop} (h : PostG G K W σ Rq H w (r.bind f) Q)
    (k : ∀ v H' w' d S', Ext H w H' w' → Stt K H' w' S' → Rp H' w' v d → PostG G K W σ Rq H' w' (f d S') Q → Q' v H') : PostG G K W σ Rp H w r Q' := by
  cases r with
  | ok d S' => exact fun v H' w' e' st rp => k v H' w' d S' e' st rp (PostG.ext (r := f d S') h e')
  | exc x S' => exact h
  | bad => exact h
theorem PostG.opt {o : Option α} {S : Store} {f : α → Store → R β} {Q : μ → Hp → Prop} (h : PostG G K W σ Rq H w ((opt o S).bind f) Q) : ∃ a, o = some a ∧ PostG G K W σ Rq H w (f a S) Q := by
  cases o with
  | none => exact h.elim
  | some a => exact ⟨a, rfl, h⟩
theorem PostG.ok {d : α} {S : Store} {Q : ν → Hp → Prop} (h : PostG G K W σ Rp H w (.ok d S) Q) {v : ν} {H' : Hp} {w' : Wd} (e : Ext H w H' w') (st : Stt K H' w' S) (rp : Rp H' w' v d) : Q v H' := h v H' w' e st rp
end

section
variable (G : Str → Option Value) (K : PySem.W.Frag) (W : WX)
def tG {α ν : Type} (Rp : Hp → Wd → ν → α → Prop) (f : DEnv → M α) (σ : L2.St) (H : Hp) (Q : ν → Hp → Prop) : Prop := ∃ δ w S, EnvR K H w σ δ ∧ Stt K H w S ∧ PostG G K W σ Rp H w (f δ S) Q
abbrev RpD : Hp → Wd → V → D → Prop := fun H w v d => RepD K H w v d
inductive RpAll (H : Hp) (w : Wd) : List V → List D → Prop
  | nil : RpAll H w [] []
  | cons {v vs d ds} : RepD K H w v d → RpAll H w vs ds → RpAll H w (v :: vs) (d :: ds)
abbrev RpA : Hp → Wd → List V → List D → Prop := fun H w vs ds => RpAll K H w vs ds
abbrev RpB : Hp → Wd → Bool → Bool → Prop := fun _ _ a b => a = b
end
theorem RpAll.mono {K : PySem.W.Frag} {H H' : Hp} {w w' : Wd} (e : Ext H w H' w') : ∀ {vs : List V} {ds : List D}, RpAll K H w vs ds → RpAll K H' w' vs ds
  | _, _, .nil => .nil
  | _, _, .cons a b => .cons (a.mono e) (RpAll.mono e b)
theorem RpAll.length {K : PySem.W.Frag} {H : Hp} {w : Wd} : ∀ {vs : List V} {ds : List D}, RpAll K H w vs ds → vs.length = ds.length
  | _, _, .nil => rfl
  | _, _, .cons _ b => by rw [List.length_cons, List.length_cons, RpAll.length b]

/-- an expression does f -/
structure SE (X : Cx) (W : WX) (e : Expr) (f : DEnv → M D) : Prop where
  pe : PE X e (tG X.mg X.K W (RpD X.K) f)
structure ST (X : Cx) (W : WX) (e : Expr) (f : DEnv → M Bool) : Prop where
  pt : PT X e (tG X.mg X.K W RpB f)
structure SA (X : Cx) (W : WX) (es : List Expr) (f : DEnv → M (List D)) : Prop where
  pa : PA X es (tG X.mg X.K W (RpA X.K) f)
theorem PE.imp {X : Cx} {e : Expr} {t t' : TE} (h : PE X e t) (k : ∀ σ H Q, t' σ H Q → t σ H Q) : PE X e t' := ⟨fun pins s σ H Q I q => h.run pins s σ H Q I (k _ _ _ q)⟩
theorem PT.imp {X : Cx} {e : Expr} {t t' : TT} (h : PT X e t) (k : ∀ σ H Q, t' σ H Q → t σ H Q) : PT X e t' := ⟨fun pins s σ H Q I q => h.run pins s σ H Q I (k _ _ _ q)⟩
theorem PA.imp {X : Cx} {e : List Expr} {t t' : TA} (h : PA X e t) (k : ∀ σ H Q, t' σ H Q → t σ H Q) : PA X e t' := ⟨fun p pins s σ H Q I q => h.run p pins s σ H Q I (k _ _ _ q)⟩

/-! ### what a value now reads as -/
def derefD (S : Store) : D → Option PD
  | .dat p => some p
  | .ref n => S[n]?.map PyData.list
inductive Now (K : PySem.W.Frag) (H : Hp) (w : Wd) : V → PD → Prop
  | fz {v : V} {p : PD} : Fz K H w v p → Now K H w v p
  | cel {a : Addr} {vs : List V} {ds : List PD} : H a = some (.lst vs) → FzA K H w vs ds → Now K H w (.ref a) (.list ds)
theorem Now.of {K : PySem.W.Frag} {H : Hp} {w : Wd} {S : Store} (st : Stt K H w S) {v : V} {d : D} {p : PD} (r : RepD K H w v d) (h : derefD S d = some p) : Now K H w v p := by
  cases d with
  | dat q => cases h; exact .fz r
  | ref n =>
    obtain ⟨a, h1, rfl⟩ := r
    cases e : S[n]? with
    | none => simp [derefD, e] at h
    | some ds =>
      simp [derefD, e] at h; subst h
      obtain ⟨vs, q1, q2⟩ := st.cel n a ds h1 e
      exact .cel q1 q2
section
variable {K : PySem.W.Frag} {H : Hp} {w : Wd} {v : V}
theorem Now.int {i : Int} (h : Now K H w v (.int i)) : v = .int i := by cases h with | fz h => cases h; rfl
theorem Now.bool {i : Bool} (h : Now K H w v (.bool i)) : v = .bl i := by cases h with | fz h => cases h; rfl
theorem Now.str {i : Str} (h : Now K H w v (.str i)) : v = .str i := by cases h with | fz h => cases h; rfl
theorem Now.none (h : Now K H w v .none) : v = .non := by cases h with | fz h => cases h; rfl
theorem Now.list {ds : List PD} (h : Now K H w v (.list ds)) : ∃ a xs, v = .ref a ∧ RdL K H a xs ∧ FzA K H w xs ds := by
  cases h with
  | fz h => cases h with | lst h a => exact ⟨_, _, rfl, h.rd, a⟩
  | cel h a => exact ⟨_, _, rfl, .inl (Rd.of h), a⟩
theorem Now.tup {ds : List PD} (h : Now K H w v (.tuple ds)) : ∃ a xs, v = .ref a ∧ FzT K H w a xs ∧ FzA K H w xs ds := by
  cases h with
  | fz h => cases h with | tup h a => exact ⟨_, _, rfl, h, a⟩
theorem Now.dic {ds} (h : Now K H w v (.dict ds)) : ∃ a kvs, v = .ref a ∧ FzD kvs ds ∧ H a = some (.dK kvs) := by
  cases h with
  | fz h => cases h with | dic h a q => exact ⟨_, _, rfl, q, h⟩
end
mutual
theorem Fz.dp {K : PySem.W.Frag} {H : Hp} {w : Wd} : ∀ {v : V} {p : PD}, Fz K H w v p → SeqAt.shaped p = true → Dp K H v p
  | _, _, .non, _ => .non
  | _, _, .bl b, _ => .bl b
  | _, _, .int i, _ => .int i
  | _, _, .str x, _ => .str x
  | _, _, .lst (ds := ds) h a, q => .lst h.seq (FzA.dp a (by simpa [PyData.canLay0] using SeqAt.canLay_of_shaped q) (by have := SeqAt.depth_of_shaped q; simp [PyData.depth] at this; omega))
  | _, _, .tup (ds := ds) h a, q => .tup h.seq (FzA.dp a (by simpa [PyData.canLay0] using SeqAt.canLay_of_shaped q) (by have := SeqAt.depth_of_shaped q; simp [PyData.depth] at this; omega))
  | _, _, .dic h n _, q => by
    have := SeqAt.canLay_of_shaped q
    simp [PyData.canLay0] at this
theorem FzA.dp {K : PySem.W.Frag} {H : Hp} {w : Wd} : ∀ {vs : List V} {ps : List PD}, FzA K H w vs ps → PyData.canLayAll0 ps = true → PyData.depthAll ps ≤ 64 → DpAll K H vs ps
  | _, _, .nil, _, _ => .nil
  | _, _, .cons (d := d) (ds := ds) a b, q, z => by
    have q' : d.canLay0 = true ∧ PyData.canLayAll0 ds = true := by simpa [PyData.canLayAll0] using q
    simp only [PyData.depthAll] at z
    exact .cons (Fz.dp a (by simp [SeqAt.shaped, q'.1]; omega)) (FzA.dp b q'.2 (by omega))
end
theorem Now.dp {K : PySem.W.Frag} {H : Hp} {w : Wd} {v : V} {p : PD} (h : Now K H w v p) (q : SeqAt.shaped p = true) : Dp K H v p := by
  cases h with
  | fz h => exact h.dp q
  | cel h a => exact .lst (SqL.of h) (FzA.dp a (by simpa [PyData.canLay0] using SeqAt.canLay_of_shaped q) (by have := SeqAt.depth_of_shaped q; simp [PyData.depth] at this; omega))

/-! ### operations on two values that only read, by data -/
/-- what g tells of both is what comes; nothing that was tracked changes -/
def rG (K : PySem.W.Frag) (g : PD → PD → Option PD) : R2 := fun x y H Q => ∃ w p q r, (∀ a, H a = none → w.out a) ∧ Now K H w x p ∧ Now K H w y q ∧ g p q = some r ∧ ∀ v H', Same H H' → Fz K H' w v r → Q v H'
def op2 (g : PD → PD → Option PD) (fa fb : DEnv → M D) : DEnv → M D := fun δ S => (fa δ S).bind fun a S1 => (fb δ S1).bind fun b S2 => (opt (derefD S2 a) S2).bind fun p S2 => (opt (derefD S2 b) S2).bind fun q S2 => (opt (g p q) S2).bind fun r S2 => .ok (.dat r) S2
theorem tOp_of {X : Cx} {W : WX} {g : PD → PD → Option PD} {fa fb : DEnv → M D} {σ : L2.St} {H : Hp} {Q : VK} (h : tG X.mg X.K W (RpD X.K) (op2 g fa fb) σ H Q) :
    tOp (rG X.K g) (tG X.mg X.K W (RpD X.K) fa) (tG X.mg X.K W (RpD X.K) fb) σ H Q := by
  obtain ⟨δ, w, S, env, st, h⟩ := h
  refine ⟨δ, w, S, env, st, PostG.bind h fun x H1 w1 a S1 e1 st1 rx h => ?_⟩
  refine ⟨δ, w1, S1, env.mono e1, st1, PostG.bind h fun y H2 w2 b S2 e2 st2 ry h => ?_⟩
  obtain ⟨p, hp, h⟩ := h.opt
  obtain ⟨q, hq, h⟩ := h.opt
  obtain ⟨r, hr, h⟩ := h.opt
  exact ⟨w2, p, q, r, fun a ha => st2.fresh ha, Now.of st2 (rx.mono e2) hp, Now.of st2 ry hq, hr, fun v H' sm fz => h.ok (.same sm) (st2.same sm) fz⟩
def G2 (X : Cx) (f : Value → Value → Sem Value) (g : PD → PD → Option PD) : Prop := OpR X f (rG X.K g)
section
variable {X : Cx} {W : WX} {a b : Expr} {fa fb : DEnv → M D} {pos : Pos} {g : PD → PD → Option PD}
theorem se_bin {op : Operator} (ho : G2 X (binaryOp op) g) (ha : SE X W a fa) (hb : SE X W b fb) : SE X W (.BinOp a op b pos) (op2 g fa fb) :=
  ⟨PE.imp (pe_op ho ha.pe hb.pe) fun σ H Q h => tOp_of h⟩
theorem se_cmp {op : CmpOp} (ho : G2 X (compareOp op) g) (ha : SE X W a fa) (hb : SE X W b fb) (hm : behindInMarks op b = false) : SE X W (.Compare a [op] [b] pos) (op2 g fa fb) :=
  ⟨PE.imp (pe_cmpR ho ha.pe hb.pe hm) fun σ H Q h => tOp_of h⟩
end
/-- by cases on the data -/
theorem G2.mk {X : Cx} {f : Value → Value → Sem Value} {g : PD → PD → Option PD}
    (h : ∀ w p q r, g p q = some r → OpR X f fun x y H Q => (∀ a, H a = none → w.out a) ∧ Now X.K H w x p ∧ Now X.K H w y q ∧ ∀ v H', Same H H' → Fz X.K H' w v r → Q v H') : G2 X f g := by
  intro pins s σ H x y v u Q I rx ry q
  obtain ⟨w, p, q, r, h1, h2, h3, h4, h5⟩ := q
  exact h w p q r h4 pins s σ H x y v u Q I rx ry ⟨h1, h2, h3, h5⟩
theorem OpR.imp {X : Cx} {f : Value → Value → Sem Value} {r r' : R2} (h : OpR X f r) (k : ∀ x y H Q, r' x y H Q → r x y H Q) : OpR X f r' := fun pins s σ H x y v u Q I rx ry q => h pins s σ H x y v u Q I rx ry (k _ _ _ _ q)
theorem OpR.no {X : Cx} {f : Value → Value → Sem Value} {r : R2} (k : ∀ x y H Q, r x y H Q → False) : OpR X f r := fun pins s σ H x y v u Q I rx ry q => (k _ _ _ _ q).elim

/-! ### arithmetic -/
def addP : PD → PD → Option PD
  | .int i, .int j => some (.int (i + j))
  | .str i, .str j => if i.length + j.length ≤ sizeLine then some (.str (i ++ j)) else none
  | .list i, .list j => if i.length + j.length ≤ sizeLine then some (.list (i ++ j)) else none
  | .tuple i, .tuple j => if i.length + j.length ≤ sizeLine then some (.tuple (i ++ j)) else none
  | _, _ => none
def subP : PD → PD → Option PD
  | .int i, .int j => some (.int (i - j))
  | _, _ => none
def fdivP : PD → PD → Option PD
  | .int i, .int j => if j ≠ 0 ∧ j.natAbs.log2 < 9000 then some (.int (i.fdiv j)) else none
  | _, _ => none
def modP : PD → PD → Option PD
  | .int i, .int j => if j ≠ 0 then some (.int (i.fmod j)) else none
  | _, _ => none
def powP : PD → PD → Option PD
  | .int i, .int j => if 0 ≤ j ∧ j ≤ 1000000 ∧ i.natAbs < 2 ^ 64 then some (.int (i ^ j.toNat)) else none
  | _, _ => none
section
variable {X : Cx}
theorem op_catL : OpR X (binaryOp .Add) (fun x y H Q => ∃ l b xs zs, x = .ref l ∧ y = .ref b ∧ RdL X.K H l xs ∧ RdL X.K H b zs ∧ xs.length + zs.length ≤ sizeLine ∧ ∀ p, H p = none → Q (.ref p) (upd H p (.lst (xs ++ zs)))) := by
  intro pins s σ H x y v u Q I rx ry h
  obtain ⟨l, b, xs, zs, rfl, rfl, hH, hB, hz, q⟩ := h
  cases rx
  cases ry
  obtain ⟨z, its, n, r, e⟩ := hH.ok I
  obtain ⟨z2, its2, n2, r2, e2⟩ := hB.ok I
  have hl := r.length
  have hl2 := r2.length
  refine PySem.P.add_list e e2 ?_ (by rw [List.size_toArray, List.size_toArray]; omega)
  have ea : its.toArray ++ its2.toArray = (its ++ its2).toArray := by simp
  rw [ea]
  exact ⟨.ref _, _, I.lnew (t' := s.toks) (r.append r2) (by rw [List.length_append]; omega), rfl, q _ I.fresh⟩
theorem fz_new {K : PySem.W.Frag} {H : Hp} {w : Wd} (fr : ∀ a, H a = none → w.out a) {p : Addr} {xs : List V} {ds : List PD} (hp : H p = none) (h : FzA K H w xs ds) : Fz K (upd H p (.lst xs)) w (.ref p) (.list ds) :=
  .lst (.inl ⟨Rd.of upd_same, fr p hp⟩) (h.mono (Ext.same (same_new hp)).mono)
theorem fz_newT {K : PySem.W.Frag} {H : Hp} {w : Wd} (fr : ∀ a, H a = none → w.out a) {p : Addr} {xs : List V} {ds : List PD} (hp : H p = none) (h : FzA K H w xs ds) : Fz K (upd H p (.tup xs)) w (.ref p) (.tuple ds) :=
  .tup (.inl ⟨Rd.of upd_same, fr p hp⟩) (h.mono (Ext.same (same_new hp)).mono)
theorem g_add : G2 X (binaryOp .Add) addP := .mk fun w p q r h => by
  cases p <;> cases q <;> simp only [addP, reduceCtorEq] at h
  · cases h
    exact OpR.imp op_add fun x y H Q ⟨_, h1, h2, k⟩ => by cases h1.int; cases h2.int; exact ⟨_, _, rfl, rfl, k _ _ (Same.refl _) (.int _)⟩
  · split at h <;> cases h
    rename_i hs
    exact OpR.imp op_add_str fun x y H Q ⟨_, h1, h2, k⟩ => by cases h1.str; cases h2.str; exact ⟨_, _, rfl, rfl, hs, k _ _ (Same.refl _) (.str _)⟩
  · split at h <;> cases h
    rename_i hs
    refine OpR.imp op_catL fun x y H Q ⟨fr, h1, h2, k⟩ => ?_
    obtain ⟨a, xs, rfl, l1, f1⟩ := h1.list
    obtain ⟨b, ys, rfl, l2, f2⟩ := h2.list
    exact ⟨a, b, xs, ys, rfl, rfl, l1, l2, by rw [f1.length, f2.length]; exact hs, fun p hp => k _ _ (same_new hp) (fz_new fr hp (f1.append f2))⟩
  · split at h <;> cases h
    rename_i hs
    refine OpR.imp op_catA fun x y H Q ⟨fr, h1, h2, k⟩ => ?_
    obtain ⟨a, xs, rfl, l1, f1⟩ := h1.tup
    obtain ⟨b, ys, rfl, l2, f2⟩ := h2.tup
    refine ⟨a, b, xs, ys, rfl, rfl, l1.seq, l2.seq, by rw [f1.length, f2.length]; exact hs, fun e => ?_, fun e1 e => ?_, fun e1 e2 p hp => k _ _ (same_new hp) (fz_newT fr hp (f1.append f2))⟩
    · subst e; cases f1; exact k _ _ (Same.refl _) (.tup l2 f2)
    · subst e; cases f2; rw [List.append_nil] at k; exact k _ _ (Same.refl _) (.tup l1 f1)
theorem g_sub : G2 X (binaryOp .Sub) subP := .mk fun w p q r h => by
  cases p <;> cases q <;> simp only [subP, reduceCtorEq] at h
  cases h
  exact OpR.imp op_sub fun x y H Q ⟨_, h1, h2, k⟩ => by cases h1.int; cases h2.int; exact ⟨_, _, rfl, rfl, k _ _ (Same.refl _) (.int _)⟩
theorem g_fdiv : G2 X (binaryOp .FloorDiv) fdivP := .mk fun w p q r h => by
  cases p <;> cases q <;> simp only [fdivP, reduceCtorEq] at h
  split at h <;> cases h
  rename_i hs
  have := opI (X := X) (f := binaryOp .FloorDiv) (C := fun _ j : Int => j ≠ 0 ∧ j.natAbs.log2 < 9000) (g := fun i j => i.fdiv j) fun _ _ _ _ _ _ _ hc q => floordiv_int hc.1 q (.inl (PyProof.noPylong_of_log2 hc.2))
  exact OpR.imp this fun x y H Q ⟨_, h1, h2, k⟩ => by cases h1.int; cases h2.int; exact ⟨_, _, rfl, rfl, hs, k _ _ (Same.refl _) (.int _)⟩
theorem g_mod : G2 X (binaryOp .Mod) modP := .mk fun w p q r h => by
  cases p <;> cases q <;> simp only [modP, reduceCtorEq] at h
  split at h <;> cases h
  rename_i hs
  exact OpR.imp op_modN fun x y H Q ⟨_, h1, h2, k⟩ => by cases h1.int; cases h2.int; exact ⟨_, _, rfl, rfl, hs, k _ _ (Same.refl _) (.int _)⟩
theorem g_pow : G2 X (binaryOp .Pow) powP := .mk fun w p q r h => by
  cases p <;> cases q <;> simp only [powP, reduceCtorEq] at h
  split at h <;> cases h
  rename_i hs
  exact OpR.imp op_pow fun x y H Q ⟨_, h1, h2, k⟩ => by cases h1.int; cases h2.int; exact ⟨_, _, rfl, rfl, hs, k _ _ (Same.refl _) (.int _)⟩
end
end DL

set_option Elab.async false
set_option linter.all false
set_option maxRecDepth 100000
set_option maxHeartbeats 4000000
/-! DLc: what stands reads as data; == of data. -/
namespace DL
open PySem PySem.Spec PyProof.Rows L2

mutual
/-- a list stands within -/
def hasLst : PD → Bool
  | .list _ => true
  | .tuple xs => hasLstAll xs
  | _ => false
def hasLstAll : List PD → Bool
  | [] => false
  | x :: xs => hasLst x || hasLstAll xs
end
section
variable {X : Cx} {pins : List (Addr × Obj)} {σ : L2.St} {H : Hp} {s : Shared} {w : Wd}
theorem at_reads {v : V} {d : PD} (h : AtD v d) {u : Value} (r : RelV v u) : Reads s.heap u d [] := by
  cases h with
  | non => cases r; exact Reads.none
  | bl b => cases r; exact Reads.bool b
  | int i => obtain ⟨t, rfl⟩ := r; exact Reads.int i t
  | str x => obtain ⟨t, rfl⟩ := r; exact Reads.str x t
theorem key_reads {k : Key} {u : Value} (h : keyIs k u = true) : Reads s.heap u (kP k) [] := by
  rcases keyIs_shape h with ⟨i, t, rfl, rfl⟩ | ⟨x, t, rfl, rfl⟩
  · exact Reads.int i t
  · exact Reads.str x t
theorem dic_all {P : Program} {ww : World} : ∀ {es : List DictEntry} {kvs : List (Key × V)} {vs : List (Key × Value)} {ds : List (PD × PD)}, FzD kvs ds → KV kvs vs → Pairs (mixKind P ww) es vs →
    ReadsAll s.heap (es.map (·.key)) (ds.map (·.1)) [] ∧ ReadsAll s.heap (es.map (·.val)) (ds.map (·.2)) []
  | es, _, _, _, .nil, kv, pr => by
    cases kv
    cases es with
    | nil => exact ⟨.nil, .nil⟩
    | cons a b => cases pr
  | es, _, _, _, .cons ha q, kv, pr => by
    cases kv with
    | cons h t =>
      cases es with
      | nil => cases pr
      | cons a b =>
        cases pr with
        | cons p1 p2 p3 =>
          obtain ⟨i1, i2⟩ := dic_all (P := P) (ww := ww) q t p3
          obtain ⟨h1, h2⟩ := h
          simp only [] at h1 h2
          subst h1
          rw [← p2] at h2
          exact ⟨ReadsAll.cons (as := []) (key_reads p1) i1, ReadsAll.cons (as := []) (at_reads ha h2) i2⟩
theorem dic_reads (I : Inv X pins σ H s) {a : Addr} {kvs : List (Key × V)} {ds : List (PD × PD)} (h : H a = some (.dK kvs)) (q : FzD kvs ds) : Reads s.heap (.ref a) (.dict ds) (a :: [] ++ []) ∧ a ≠ sysModules := by
  obtain ⟨_, hs, vs, r, o, es, ep, e, x, dd, _, k, _⟩ := I.hok a _ h
  have he := dic_all (s := s) q r k
  exact ⟨Reads.dict e x.1 dd he.1 he.2, by simpa using hs⟩
mutual
theorem Fz.reads (I : Inv X pins σ H s) : ∀ {p : PD} {v : V} {u : Value}, Fz X.K H w v p → RelV v u → ∃ as, Reads s.heap u p as ∧ (hasLst p = false → sysModules ∉ as)
  | .none, _, _, h, r => by cases h; cases r; exact ⟨_, Reads.none, by simp⟩
  | .bool b, _, _, h, r => by cases h; cases r; exact ⟨_, Reads.bool b, by simp⟩
  | .int i, _, _, h, r => by cases h; obtain ⟨t, rfl⟩ := r; exact ⟨_, Reads.int i t, by simp⟩
  | .str x, _, _, h, r => by cases h; obtain ⟨t, rfl⟩ := r; exact ⟨_, Reads.str x t, by simp⟩
  | .list ds, _, _, h, r => by
    cases h with
    | lst hs ha =>
      cases r
      obtain ⟨_, its, n, rv, e⟩ := hs.rd.ok I
      obtain ⟨as, hr, hn⟩ := FzA.reads I ha rv
      exact ⟨_, Reads.list e rfl rfl hr, fun z => by simp [hasLst] at z⟩
  | .tuple ds, _, _, h, r => by
    cases h with
    | tup hs ha =>
      cases r
      obtain ⟨its, rv, ⟨o, ho, hc, n, hd⟩, _⟩ := I.tuple hs.seq
      obtain ⟨as, hr, hn⟩ := FzA.reads I ha rv
      exact ⟨_, Reads.tuple ho hc hd hr, fun z => hn (by simpa [hasLst] using z)⟩
  | .dict kvs, _, _, h, r => by
    cases h with
    | dic h n q =>
      cases r
      obtain ⟨q1, q2⟩ := dic_reads I h q
      exact ⟨_, q1, fun _ => by simpa using fun e => q2 e.symm⟩
theorem FzA.reads (I : Inv X pins σ H s) : ∀ {ps : List PD} {vs : List V} {us : List Value}, FzA X.K H w vs ps → Vals vs us → ∃ as, ReadsAll s.heap us ps as ∧ (hasLstAll ps = false → sysModules ∉ as)
  | [], _, _, h, r => by cases h; cases r; exact ⟨_, ReadsAll.nil, by simp⟩
  | d :: ds, _, _, h, r => by
    cases h with
    | cons h1 h2 =>
      cases r with
      | cons r1 r2 =>
        obtain ⟨as, q1, n1⟩ := Fz.reads I h1 r1
        obtain ⟨bs, q2, n2⟩ := FzA.reads I h2 r2
        refine ⟨_, ReadsAll.cons q1 q2, fun z hm => ?_⟩
        simp [hasLstAll] at z
        exact (List.mem_append.mp hm).elim (n1 z.1) (n2 z.2)
end
theorem Now.reads (I : Inv X pins σ H s) {p : PD} {v : V} {u : Value} (h : Now X.K H w v p) (r : RelV v u) : ∃ as, Reads s.heap u p as ∧ (hasLst p = false → sysModules ∉ as) := by
  cases h with
  | fz h => exact h.reads I r
  | cel h a =>
    cases r
    obtain ⟨_, its, n, rv, e⟩ := I.hok _ _ h
    obtain ⟨as, hr, hn⟩ := FzA.reads I a rv
    exact ⟨_, Reads.list e rfl rfl hr, fun z => by simp [hasLst] at z⟩
end

/-! ### == by data, at most n deep; not where a dict is asked -/
def eqOk : Nat → PD → PD → Bool
  | 0, p, q => match p, q with
    | .dict _, _ => false
    | _, .dict _ => false
    | .list _, .list _ => false
    | .tuple _, .tuple _ => false
    | _, _ => true
  | n + 1, p, q => match p, q with
    | .dict _, _ => false
    | _, .dict _ => false
    | .list xs, .list ys => go n xs ys
    | .tuple xs, .tuple ys => go n xs ys
    | _, _ => true
where go (n : Nat) : List PD → List PD → Bool
  | x :: xs, y :: ys => eqOk n x y && go n xs ys
  | [], _ => true
  | _ :: _, [] => true
theorem eqOk_go_at {n : Nat} : ∀ {xs ys : List PD}, eqOk.go n xs ys = true → ∀ j (h1 : j < xs.length) (h2 : j < ys.length), eqOk n xs[j] ys[j] = true
  | [], _, _, j, h1, _ => absurd h1 (Nat.not_lt_zero _)
  | _ :: _, [], _, j, _, h2 => absurd h2 (Nat.not_lt_zero _)
  | x :: xs, y :: ys, h, 0, _, _ => by simp [eqOk.go] at h; exact h.1
  | x :: xs, y :: ys, h, j + 1, h1, h2 => by
    simp [eqOk.go] at h
    exact eqOk_go_at h.2 j (by simpa using h1) (by simpa using h2)
theorem eqvAll_self : ∀ (xs : List PD), (∀ j (h1 : j < xs.length), PyData.eqv xs[j] xs[j] = true) → PyData.eqvAll xs xs = true
  | [], _ => rfl
  | x :: xs, h => by
    simp only [PyData.eqvAll, Bool.and_eq_true]
    exact ⟨h 0 (Nat.zero_lt_succ _), eqvAll_self xs fun j h1 => h (j + 1) (by simpa using h1)⟩
theorem eqOk_refl : ∀ (n : Nat) (p : PD), eqOk n p p = true → PyData.eqv p p = true := by
  intro n
  induction n with
  | zero => intro p h; cases p <;> simp [eqOk, PyData.eqv] at h ⊢
  | succ n ih =>
    intro p h
    cases p <;> simp [eqOk, PyData.eqv] at h ⊢
    · exact eqvAll_self _ fun j h1 => ih _ (eqOk_go_at h j h1 h1)
    · exact eqvAll_self _ fun j h1 => ih _ (eqOk_go_at h j h1 h1)
theorem readsAll_at {h : Heap} : ∀ {vs : List Value} {ds : List PD} {as : List Addr}, ReadsAll h vs ds as → vs.length = ds.length ∧ ∀ j (h1 : j < vs.length) (h2 : j < ds.length), ∃ bs, Reads h vs[j] ds[j] bs
  | _, _, _, .nil => ⟨rfl, fun j h1 => absurd h1 (Nat.not_lt_zero _)⟩
  | _, _, _, .cons a b => by
    obtain ⟨l, g⟩ := readsAll_at b
    refine ⟨by rw [List.length_cons, List.length_cons, l], fun j h1 h2 => ?_⟩
    cases j with
    | zero => exact ⟨_, a⟩
    | succ j => exact g j (by simpa using h1) (by simpa using h2)
theorem pairEq_at {xs ys : List PD} {j : Nat} (h1 : j < xs.length) (h2 : j < ys.length) : SeqAt.pairEq xs ys j = PyData.eqv xs[j] ys[j] := by
  unfold SeqAt.pairEq
  rw [List.getD_eq_getElem?_getD, List.getD_eq_getElem?_getD, List.getElem?_eq_getElem h1, List.getElem?_eq_getElem h2]
  rfl
section
open SeqAt
theorem eqAt_ok : ∀ (n : Nat) (p q : PD) (A : Around) (s : Shared) (v u : Value) (as bs : List Addr), Reads s.heap v p as → Reads s.heap u q bs → eqOk n p q = true → A.units + n < cLine → EqAt A s v u (PyData.eqv p q) := by
  have leaf : ∀ (p q : PD) (A : Around) (s : Shared) (v u : Value) (as bs : List Addr), Reads s.heap v p as → Reads s.heap u q bs → A.units < cLine →
      (match p, q with
        | .dict _, _ => False
        | _, .dict _ => False
        | .list _, .list _ => False
        | .tuple _, .tuple _ => False
        | _, _ => True) → EqAt A s v u (PyData.eqv p q) := by
    intro p q A s v u as bs ra rb hu ok
    cases ra with
    | none =>
      cases rb with
      | none => exact EqAt.same _
      | bool y => exact EqAt.none_bool y
      | int y u => exact EqAt.none_int y u
      | str y u => exact EqAt.none_str y u
      | list k1 k2 k3 k4 => exact EqAt.none_list ⟨_, k1, k2, _, k3⟩ hu
      | tuple k1 k2 k3 k4 => exact EqAt.none_tuple ⟨_, k1, k2, _, k3⟩ hu
      | dict => exact ok.elim
    | bool x =>
      cases rb with
      | none => exact EqAt.bool_none x
      | bool y => exact EqAt.bool_bool x y
      | int y u => exact EqAt.bool_int x y u
      | str y u => exact EqAt.bool_str x y u
      | list k1 k2 k3 k4 => exact EqAt.bool_list x ⟨_, k1, k2, _, k3⟩ hu
      | tuple k1 k2 k3 k4 => exact EqAt.bool_tuple x ⟨_, k1, k2, _, k3⟩ hu
      | dict => exact ok.elim
    | int x t =>
      cases rb with
      | none => exact EqAt.int_none x t
      | bool y => exact EqAt.int_bool x t y
      | int y u => exact EqAt.int_int x t y u
      | str y u => exact EqAt.int_str x t y u
      | list k1 k2 k3 k4 => exact EqAt.int_list x t ⟨_, k1, k2, _, k3⟩ hu
      | tuple k1 k2 k3 k4 => exact EqAt.int_tuple x t ⟨_, k1, k2, _, k3⟩ hu
      | dict => exact ok.elim
    | str x t =>
      cases rb with
      | none => exact EqAt.str_none x t
      | bool y => exact EqAt.str_bool x t y
      | int y u => exact EqAt.str_int x t y u
      | str y u => exact EqAt.str_str x t y u
      | list k1 k2 k3 k4 => exact EqAt.str_list x t ⟨_, k1, k2, _, k3⟩ hu
      | tuple k1 k2 k3 k4 => exact EqAt.str_tuple x t ⟨_, k1, k2, _, k3⟩ hu
      | dict => exact ok.elim
    | list h1 h2 h3 h4 =>
      have hl : s.heap.IsList _ _ := ⟨_, h1, h2, _, h3⟩
      cases rb with
      | none => exact EqAt.list_none hl hu
      | bool y => exact EqAt.list_bool y hl hu
      | int y u => exact EqAt.list_int y u hl hu
      | str y u => exact EqAt.list_str y u hl hu
      | tuple k1 k2 k3 k4 => exact EqAt.list_tuple hl ⟨_, k1, k2, _, k3⟩ hu
      | list => exact ok.elim
      | dict => exact ok.elim
    | tuple h1 h2 h3 h4 =>
      have hl : s.heap.IsTuple _ _ := ⟨_, h1, h2, _, h3⟩
      cases rb with
      | none => exact EqAt.tuple_none hl hu
      | bool y => exact EqAt.tuple_bool y hl hu
      | int y u => exact EqAt.tuple_int y u hl hu
      | str y u => exact EqAt.tuple_str y u hl hu
      | list k1 k2 k3 k4 => exact EqAt.tuple_list hl ⟨_, k1, k2, _, k3⟩ hu
      | tuple => exact ok.elim
      | dict => exact ok.elim
    | dict => exact ok.elim
  intro n
  induction n with
  | zero =>
    intro p q A s v u as bs ra rb ok hu
    exact leaf p q A s v u as bs ra rb (by omega) (by cases p <;> cases q <;> simp [eqOk] at ok ⊢)
  | succ n ih =>
    intro p q A s v u as bs ra rb ok hu
    have hu0 : A.units < cLine := by omega
    have hu1 : A.in1.units + n < cLine := by show A.units + 1 + n < cLine; omega
    by_cases z : (match p, q with
        | .dict _, _ => False
        | _, .dict _ => False
        | .list _, .list _ => False
        | .tuple _, .tuple _ => False
        | _, _ => True)
    · exact leaf p q A s v u as bs ra rb hu0 z
    · cases p <;> cases q <;> simp [eqOk] at ok z
      case list.list xs ys =>
        cases ra with
        | @list l o vs m _ as' h1 h2 h3 h4 =>
          cases rb with
          | @list l' o' vs' m' _ bs' k1 k2 k3 k4 =>
            have hl : s.heap.IsList l vs := ⟨_, h1, h2, _, h3⟩
            have hl' : s.heap.IsList l' vs' := ⟨_, k1, k2, _, k3⟩
            obtain ⟨n1, g1⟩ := readsAll_at h4
            obtain ⟨n2, g2⟩ := readsAll_at k4
            simp at n1 n2
            show EqAt A s (.ref l) (.ref l') (PyData.eqvAll xs ys)
            by_cases hll : l = l'
            · subst hll
              have e : PyData.list xs = PyData.list ys := (PySem.Reads.unique (Reads.list h1 h2 h3 h4) _ _ (Reads.list k1 k2 k3 k4)).1
              injection e with e
              subst e
              rw [eqvAll_self xs fun j j1 => eqOk_refl n _ (eqOk_go_at ok j j1 j1)]
              exact EqAt.same _
            · by_cases hsz : vs.size = vs'.size
              · rw [← eqvAll_same_length (by omega : xs.length = ys.length), ← n1]
                refine EqAt.of_refs hll (RcAt.lists hl hl' hsz hu0 fun j j1 j2 => ?_)
                obtain ⟨b1, r1⟩ := g1 j (by simpa using j1) (by omega)
                obtain ⟨b2, r2⟩ := g2 j (by simpa using j2) (by omega)
                have := ih _ _ A.in1 s _ _ _ _ r1 r2 (eqOk_go_at ok j (by omega) (by omega)) hu1
                rw [← pairEq_at] at this
                simpa using this
              · rw [eqvAll_other_length (by omega : xs.length ≠ ys.length)]
                exact EqAt.of_refs hll (RcAt.lists_lengths hl hl' (by simpa using hsz) hu0)
      case tuple.tuple xs ys =>
        cases ra with
        | @tuple l o vs m _ as' h1 h2 h3 h4 =>
          cases rb with
          | @tuple l' o' vs' m' _ bs' k1 k2 k3 k4 =>
            have hl : s.heap.IsTuple l vs := ⟨_, h1, h2, _, h3⟩
            have hl' : s.heap.IsTuple l' vs' := ⟨_, k1, k2, _, k3⟩
            obtain ⟨n1, g1⟩ := readsAll_at h4
            obtain ⟨n2, g2⟩ := readsAll_at k4
            simp at n1 n2
            show EqAt A s (.ref l) (.ref l') (PyData.eqvAll xs ys)
            by_cases hll : l = l'
            · subst hll
              have e : PyData.tuple xs = PyData.tuple ys := (PySem.Reads.unique (Reads.tuple h1 h2 h3 h4) _ _ (Reads.tuple k1 k2 k3 k4)).1
              injection e with e
              subst e
              rw [eqvAll_self xs fun j j1 => eqOk_refl n _ (eqOk_go_at ok j j1 j1)]
              exact EqAt.same _
            · rw [← eqvAll_eq xs ys, ← n1, ← n2]
              refine EqAt.of_refs hll (RcAt.tuples hl hl' hu0 fun j j1 j2 => ?_)
              obtain ⟨b1, r1⟩ := g1 j (by simpa using j1) (by omega)
              obtain ⟨b2, r2⟩ := g2 j (by simpa using j2) (by omega)
              have := ih _ _ A.in1 s _ _ _ _ r1 r2 (eqOk_go_at ok j (by omega) (by omega)) hu1
              rw [← pairEq_at] at this
              simpa using this
theorem rcAt_ok {n : Nat} {p q : PD} {A : Around} {s : Shared} {v u : Value} {as bs : List Addr} (ra : Reads s.heap v p as) (rb : Reads s.heap u q bs) (ok : eqOk (n + 1) p q = true) (hu : A.units + (n + 1) < cLine) : RcAt A s v u (PyData.eqv p q) := by
  have hu0 : A.units < cLine := by omega
  cases ra with
  | none =>
    cases rb with
    | none => exact RcAt.none_none
    | bool y => exact RcAt.none_bool y
    | int y u => exact RcAt.none_int y u
    | str y u => exact RcAt.none_str y u
    | list k1 k2 k3 k4 => exact RcAt.none_list ⟨_, k1, k2, _, k3⟩ hu0
    | tuple k1 k2 k3 k4 => exact RcAt.none_tuple ⟨_, k1, k2, _, k3⟩ hu0
    | dict => simp [eqOk] at ok
  | bool x =>
    cases rb with
    | none => exact RcAt.bool_none x
    | bool y => exact RcAt.bool_bool x y
    | int y u => exact RcAt.bool_int x y u
    | str y u => exact RcAt.bool_str x y u
    | list k1 k2 k3 k4 => exact RcAt.bool_list x ⟨_, k1, k2, _, k3⟩ hu0
    | tuple k1 k2 k3 k4 => exact RcAt.bool_tuple x ⟨_, k1, k2, _, k3⟩ hu0
    | dict => simp [eqOk] at ok
  | int x t =>
    cases rb with
    | none => exact RcAt.int_none x t
    | bool y => exact RcAt.int_bool x t y
    | int y u => exact RcAt.int_int x t y u
    | str y u => exact RcAt.int_str x t y u
    | list k1 k2 k3 k4 => exact RcAt.int_list x t ⟨_, k1, k2, _, k3⟩ hu0
    | tuple k1 k2 k3 k4 => exact RcAt.int_tuple x t ⟨_, k1, k2, _, k3⟩ hu0
    | dict => simp [eqOk] at ok
  | str x t =>
    cases rb with
    | none => exact RcAt.str_none x t
    | bool y => exact RcAt.str_bool x t y
    | int y u => exact RcAt.str_int x t y u
    | str y u => exact RcAt.str_str x t y u
    | list k1 k2 k3 k4 => exact RcAt.str_list x t ⟨_, k1, k2, _, k3⟩ hu0
    | tuple k1 k2 k3 k4 => exact RcAt.str_tuple x t ⟨_, k1, k2, _, k3⟩ hu0
    | dict => simp [eqOk] at ok
  | @list l o vs m xs as' h1 h2 h3 h4 =>
    have hl : s.heap.IsList l vs := ⟨_, h1, h2, _, h3⟩
    cases rb with
    | none => exact RcAt.list_none hl hu0
    | bool y => exact RcAt.list_bool y hl hu0
    | int y u => exact RcAt.list_int y u hl hu0
    | str y u => exact RcAt.list_str y u hl hu0
    | tuple k1 k2 k3 k4 => exact RcAt.list_tuple hl ⟨_, k1, k2, _, k3⟩ hu0
    | dict => simp [eqOk] at ok
    | @list l' o' vs' m' ys bs' k1 k2 k3 k4 =>
      have hl' : s.heap.IsList l' vs' := ⟨_, k1, k2, _, k3⟩
      simp [eqOk] at ok
      obtain ⟨n1, g1⟩ := readsAll_at h4
      obtain ⟨n2, g2⟩ := readsAll_at k4
      simp at n1 n2
      have he : ∀ j (j1 : j < vs.size) (j2 : j < vs'.size), EqAt A.in1 s vs[j] vs'[j] (pairEq xs ys j) := fun j j1 j2 => by
        obtain ⟨b1, r1⟩ := g1 j (by simpa using j1) (by omega)
        obtain ⟨b2, r2⟩ := g2 j (by simpa using j2) (by omega)
        have := eqAt_ok n _ _ A.in1 s _ _ _ _ r1 r2 (eqOk_go_at ok j (by omega) (by omega)) (by show A.units + 1 + n < cLine; omega)
        rw [← pairEq_at] at this
        simpa using this
      show RcAt A s (.ref l) (.ref l') ((PyData.eqvAll xs ys))
      by_cases hsz : vs.size = vs'.size
      · rw [← eqvAll_same_length (by omega : xs.length = ys.length), ← n1]
        exact RcAt.lists hl hl' hsz hu0 he
      · rw [eqvAll_other_length (by omega : xs.length ≠ ys.length)]
        exact RcAt.lists_lengths hl hl' (by simpa using hsz) hu0
  | @tuple l o vs m xs as' h1 h2 h3 h4 =>
    have hl : s.heap.IsTuple l vs := ⟨_, h1, h2, _, h3⟩
    cases rb with
    | none => exact RcAt.tuple_none hl hu0
    | bool y => exact RcAt.tuple_bool y hl hu0
    | int y u => exact RcAt.tuple_int y u hl hu0
    | str y u => exact RcAt.tuple_str y u hl hu0
    | list k1 k2 k3 k4 => exact RcAt.tuple_list hl ⟨_, k1, k2, _, k3⟩ hu0
    | dict => simp [eqOk] at ok
    | @tuple l' o' vs' m' ys bs' k1 k2 k3 k4 =>
      have hl' : s.heap.IsTuple l' vs' := ⟨_, k1, k2, _, k3⟩
      simp [eqOk] at ok
      obtain ⟨n1, g1⟩ := readsAll_at h4
      obtain ⟨n2, g2⟩ := readsAll_at k4
      simp at n1 n2
      have he : ∀ j (j1 : j < vs.size) (j2 : j < vs'.size), EqAt A.in1 s vs[j] vs'[j] (pairEq xs ys j) := fun j j1 j2 => by
        obtain ⟨b1, r1⟩ := g1 j (by simpa using j1) (by omega)
        obtain ⟨b2, r2⟩ := g2 j (by simpa using j2) (by omega)
        have := eqAt_ok n _ _ A.in1 s _ _ _ _ r1 r2 (eqOk_go_at ok j (by omega) (by omega)) (by show A.units + 1 + n < cLine; omega)
        rw [← pairEq_at] at this
        simpa using this
      show RcAt A s (.ref l) (.ref l') ((PyData.eqvAll xs ys))
      rw [← eqvAll_eq xs ys, ← n1, ← n2]
      exact RcAt.tuples hl hl' hu0 he
  | dict => simp [eqOk] at ok
theorem rcNeAt_ok {n : Nat} {p q : PD} {A : Around} {s : Shared} {v u : Value} {as bs : List Addr} (ra : Reads s.heap v p as) (rb : Reads s.heap u q bs) (ok : eqOk (n + 1) p q = true) (hu : A.units + (n + 1) < cLine) : RcNeAt A s v u (!PyData.eqv p q) := by
  have hu0 : A.units < cLine := by omega
  cases ra with
  | none =>
    cases rb with
    | none => exact RcNeAt.none_none
    | bool y => exact RcNeAt.none_bool y
    | int y u => exact RcNeAt.none_int y u
    | str y u => exact RcNeAt.none_str y u
    | list k1 k2 k3 k4 => exact RcNeAt.none_list ⟨_, k1, k2, _, k3⟩ hu0
    | tuple k1 k2 k3 k4 => exact RcNeAt.none_tuple ⟨_, k1, k2, _, k3⟩ hu0
    | dict => simp [eqOk] at ok
  | bool x =>
    cases rb with
    | none => exact RcNeAt.bool_none x
    | bool y => exact RcNeAt.bool_bool x y
    | int y u => exact RcNeAt.bool_int x y u
    | str y u => exact RcNeAt.bool_str x y u
    | list k1 k2 k3 k4 => exact RcNeAt.bool_list x ⟨_, k1, k2, _, k3⟩ hu0
    | tuple k1 k2 k3 k4 => exact RcNeAt.bool_tuple x ⟨_, k1, k2, _, k3⟩ hu0
    | dict => simp [eqOk] at ok
  | int x t =>
    cases rb with
    | none => exact RcNeAt.int_none x t
    | bool y => exact RcNeAt.int_bool x t y
    | int y u => exact RcNeAt.int_int x t y u
    | str y u => exact RcNeAt.int_str x t y u
    | list k1 k2 k3 k4 => exact RcNeAt.int_list x t ⟨_, k1, k2, _, k3⟩ hu0
    | tuple k1 k2 k3 k4 => exact RcNeAt.int_tuple x t ⟨_, k1, k2, _, k3⟩ hu0
    | dict => simp [eqOk] at ok
  | str x t =>
    cases rb with
    | none => exact RcNeAt.str_none x t
    | bool y => exact RcNeAt.str_bool x t y
    | int y u => exact RcNeAt.str_int x t y u
    | str y u => exact RcNeAt.str_str x t y u
    | list k1 k2 k3 k4 => exact RcNeAt.str_list x t ⟨_, k1, k2, _, k3⟩ hu0
    | tuple k1 k2 k3 k4 => exact RcNeAt.str_tuple x t ⟨_, k1, k2, _, k3⟩ hu0
    | dict => simp [eqOk] at ok
  | @list l o vs m xs as' h1 h2 h3 h4 =>
    have hl : s.heap.IsList l vs := ⟨_, h1, h2, _, h3⟩
    cases rb with
    | none => exact RcNeAt.list_none hl hu0
    | bool y => exact RcNeAt.list_bool y hl hu0
    | int y u => exact RcNeAt.list_int y u hl hu0
    | str y u => exact RcNeAt.list_str y u hl hu0
    | tuple k1 k2 k3 k4 => exact RcNeAt.list_tuple hl ⟨_, k1, k2, _, k3⟩ hu0
    | dict => simp [eqOk] at ok
    | @list l' o' vs' m' ys bs' k1 k2 k3 k4 =>
      have hl' : s.heap.IsList l' vs' := ⟨_, k1, k2, _, k3⟩
      simp [eqOk] at ok
      obtain ⟨n1, g1⟩ := readsAll_at h4
      obtain ⟨n2, g2⟩ := readsAll_at k4
      simp at n1 n2
      have he : ∀ j (j1 : j < vs.size) (j2 : j < vs'.size), EqAt A.in1 s vs[j] vs'[j] (pairEq xs ys j) := fun j j1 j2 => by
        obtain ⟨b1, r1⟩ := g1 j (by simpa using j1) (by omega)
        obtain ⟨b2, r2⟩ := g2 j (by simpa using j2) (by omega)
        have := eqAt_ok n _ _ A.in1 s _ _ _ _ r1 r2 (eqOk_go_at ok j (by omega) (by omega)) (by show A.units + 1 + n < cLine; omega)
        rw [← pairEq_at] at this
        simpa using this
      show RcNeAt A s (.ref l) (.ref l') (!(PyData.eqvAll xs ys))
      by_cases hsz : vs.size = vs'.size
      · rw [← eqvAll_same_length (by omega : xs.length = ys.length), ← n1]
        exact RcNeAt.lists hl hl' hsz hu0 he
      · rw [eqvAll_other_length (by omega : xs.length ≠ ys.length)]
        exact RcNeAt.lists_lengths hl hl' (by simpa using hsz) hu0
  | @tuple l o vs m xs as' h1 h2 h3 h4 =>
    have hl : s.heap.IsTuple l vs := ⟨_, h1, h2, _, h3⟩
    cases rb with
    | none => exact RcNeAt.tuple_none hl hu0
    | bool y => exact RcNeAt.tuple_bool y hl hu0
    | int y u => exact RcNeAt.tuple_int y u hl hu0
    | str y u => exact RcNeAt.tuple_str y u hl hu0
    | list k1 k2 k3 k4 => exact RcNeAt.tuple_list hl ⟨_, k1, k2, _, k3⟩ hu0
    | dict => simp [eqOk] at ok
    | @tuple l' o' vs' m' ys bs' k1 k2 k3 k4 =>
      have hl' : s.heap.IsTuple l' vs' := ⟨_, k1, k2, _, k3⟩
      simp [eqOk] at ok
      obtain ⟨n1, g1⟩ := readsAll_at h4
      obtain ⟨n2, g2⟩ := readsAll_at k4
      simp at n1 n2
      have he : ∀ j (j1 : j < vs.size) (j2 : j < vs'.size), EqAt A.in1 s vs[j] vs'[j] (pairEq xs ys j) := fun j j1 j2 => by
        obtain ⟨b1, r1⟩ := g1 j (by simpa using j1) (by omega)
        obtain ⟨b2, r2⟩ := g2 j (by simpa using j2) (by omega)
        have := eqAt_ok n _ _ A.in1 s _ _ _ _ r1 r2 (eqOk_go_at ok j (by omega) (by omega)) (by show A.units + 1 + n < cLine; omega)
        rw [← pairEq_at] at this
        simpa using this
      show RcNeAt A s (.ref l) (.ref l') (!(PyData.eqvAll xs ys))
      rw [← eqvAll_eq xs ys, ← n1, ← n2]
      exact RcNeAt.tuples hl hl' hu0 he
  | dict => simp [eqOk] at ok
end
end DL

set_option Elab.async false
set_option linter.all false
set_option maxRecDepth 100000
set_option maxHeartbeats 4000000
/-! DLd: comparisons, subscripts, slices, builtins by data. -/
namespace DL
open PySem PySem.Spec PyProof.Rows L2

section
variable {X : Cx}
def eqP (p q : PD) : Option PD := if eqOk 60 p q = true then some (.bool (PyData.eqv p q)) else none
def neP (p q : PD) : Option PD := if eqOk 60 p q = true then some (.bool (!PyData.eqv p q)) else none
theorem g_eq (hu : X.A.units + 64 < cLine) : G2 X (compareOp .Eq) eqP := .mk fun wd p q r h => by
  unfold eqP at h
  split at h <;> cases h
  rename_i ok
  intro pins s σ H x y v u Q I rx ry ⟨_, h1, h2, k⟩
  obtain ⟨as, r1, _⟩ := h1.reads I rx
  obtain ⟨bs, r2, _⟩ := h2.reads I ry
  exact rcAt_ok (n := 59) r1 r2 ok (by omega) X.prog X.w _ _ ⟨.bl _, H, I, rfl, k _ _ (Same.refl _) (.bl _)⟩
theorem g_ne (hu : X.A.units + 64 < cLine) : G2 X (compareOp .NotEq) neP := .mk fun wd p q r h => by
  unfold neP at h
  split at h <;> cases h
  rename_i ok
  intro pins s σ H x y v u Q I rx ry ⟨_, h1, h2, k⟩
  obtain ⟨as, r1, _⟩ := h1.reads I rx
  obtain ⟨bs, r2, _⟩ := h2.reads I ry
  exact rcNeAt_ok (n := 59) r1 r2 ok (by omega) X.prog X.w _ _ ⟨.bl _, H, I, rfl, k _ _ (Same.refl _) (.bl _)⟩
/-! order -/
def ltP : PD → PD → Option PD
  | .int i, .int j => some (.bool (decide (i < j)))
  | .str i, .str j => some (.bool (decide (i.cps.toList < j.cps.toList)))
  | _, _ => none
def leP : PD → PD → Option PD
  | .int i, .int j => some (.bool (decide (i ≤ j)))
  | .str i, .str j => some (.bool (!decide (j.cps.toList < i.cps.toList)))
  | _, _ => none
def gtP : PD → PD → Option PD
  | .int i, .int j => some (.bool (decide (j < i)))
  | .str i, .str j => some (.bool (decide (j.cps.toList < i.cps.toList)))
  | _, _ => none
def geP : PD → PD → Option PD
  | .int i, .int j => some (.bool (decide (j ≤ i)))
  | .str i, .str j => some (.bool (!decide (i.cps.toList < j.cps.toList)))
  | _, _ => none
theorem g_lt : G2 X (compareOp .Lt) ltP := .mk fun wd p q r h => by
  cases p <;> cases q <;> simp only [ltP, reduceCtorEq] at h <;> cases h
  · exact OpR.imp op_lt fun x y H Q ⟨_, h1, h2, k⟩ => by cases h1.int; cases h2.int; exact ⟨_, _, rfl, rfl, k _ _ (Same.refl _) (.bl _)⟩
  · exact OpR.imp op_lt_str fun x y H Q ⟨_, h1, h2, k⟩ => by cases h1.str; cases h2.str; exact ⟨_, _, rfl, rfl, k _ _ (Same.refl _) (.bl _)⟩
theorem g_le : G2 X (compareOp .LtE) leP := .mk fun wd p q r h => by
  cases p <;> cases q <;> simp only [leP, reduceCtorEq] at h <;> cases h
  · exact OpR.imp op_le fun x y H Q ⟨_, h1, h2, k⟩ => by cases h1.int; cases h2.int; exact ⟨_, _, rfl, rfl, k _ _ (Same.refl _) (.bl _)⟩
  · exact OpR.imp op_le_str fun x y H Q ⟨_, h1, h2, k⟩ => by cases h1.str; cases h2.str; exact ⟨_, _, rfl, rfl, k _ _ (Same.refl _) (.bl _)⟩
theorem g_gt : G2 X (compareOp .Gt) gtP := .mk fun wd p q r h => by
  cases p <;> cases q <;> simp only [gtP, reduceCtorEq] at h <;> cases h
  · exact OpR.imp op_gt fun x y H Q ⟨_, h1, h2, k⟩ => by cases h1.int; cases h2.int; exact ⟨_, _, rfl, rfl, k _ _ (Same.refl _) (.bl _)⟩
  · exact OpR.imp op_gt_str fun x y H Q ⟨_, h1, h2, k⟩ => by cases h1.str; cases h2.str; exact ⟨_, _, rfl, rfl, k _ _ (Same.refl _) (.bl _)⟩
theorem g_ge : G2 X (compareOp .GtE) geP := .mk fun wd p q r h => by
  cases p <;> cases q <;> simp only [geP, reduceCtorEq] at h <;> cases h
  · exact OpR.imp op_ge fun x y H Q ⟨_, h1, h2, k⟩ => by cases h1.int; cases h2.int; exact ⟨_, _, rfl, rfl, k _ _ (Same.refl _) (.bl _)⟩
  · exact OpR.imp op_ge_str fun x y H Q ⟨_, h1, h2, k⟩ => by cases h1.str; cases h2.str; exact ⟨_, _, rfl, rfl, k _ _ (Same.refl _) (.bl _)⟩
/-! in -/
def memB (p : PD) (ds : List PD) : Bool := ds.any fun z => PyData.eqv z p
def memOk (p : PD) (ds : List PD) : Bool := ds.all fun z => eqOk 60 z p
def subS (i j : Str) : Bool := !(Builtin.Str.occurrences j i 0 j.length 1).isEmpty
def inP (neg : Bool) : PD → PD → Option PD
  | .str i, .str j => some (.bool (if neg then !subS i j else subS i j))
  | p, .list ds => if memOk p ds = true then some (.bool (if neg then !memB p ds else memB p ds)) else none
  | p, .tuple ds => if memOk p ds = true then some (.bool (if neg then !memB p ds else memB p ds)) else none
  | _, _ => none
theorem mem_any {h : Heap} {e : Value → Bool} {g : PD → Bool} : ∀ {us : List Value} {ds : List PD} {as : List Addr}, ReadsAll h us ds as → (∀ u d bs, u ∈ us → d ∈ ds → Reads h u d bs → e u = g d) → us.any e = ds.any g
  | _, _, _, .nil, _ => rfl
  | _, _, _, .cons a b, k => by
    rw [List.any_cons, List.any_cons, k _ _ _ List.mem_cons_self List.mem_cons_self a, mem_any b fun u d bs h1 h2 r => k u d bs (List.mem_cons_of_mem _ h1) (List.mem_cons_of_mem _ h2) r]
theorem readsAll_mem {h : Heap} : ∀ {us : List Value} {ds : List PD} {as : List Addr} {u : Value}, ReadsAll h us ds as → u ∈ us → ∃ d bs, d ∈ ds ∧ Reads h u d bs
  | _, _, _, _, .nil, m => by cases m
  | _, _, _, _, .cons a b, m => by
    rcases List.mem_cons.mp m with rfl | m
    · exact ⟨_, _, List.mem_cons_self, a⟩
    · obtain ⟨d, bs, h1, h2⟩ := readsAll_mem b m
      exact ⟨d, bs, List.mem_cons_of_mem _ h1, h2⟩
open Classical in
theorem mem_run {A : Around} {s : Shared} {p : PD} {v : Value} {as : List Addr} (rv : Reads s.heap v p as) (hu : A.units + 60 < cLine) {us : List Value} {ds : List PD} {bs : List Addr} (r : ReadsAll s.heap us ds bs) (ok : memOk p ds = true) :
    ∃ e : Value → Bool, (∀ y ∈ us, SeqAt.EqAt A s y v (e y)) ∧ us.any e = memB p ds := by
  refine ⟨fun y => if h : ∃ d cs, Reads s.heap y d cs then PyData.eqv (Classical.choose h) p else false, fun y hy => ?_, ?_⟩
  · obtain ⟨d, cs, hd, hr⟩ := readsAll_mem r hy
    have h : ∃ d cs, Reads s.heap y d cs := ⟨d, cs, hr⟩
    have q := Classical.choose_spec h
    obtain ⟨cs', q⟩ := q
    have e : Classical.choose h = d := (PySem.Reads.unique q _ _ hr).1
    simp only []
    rw [dif_pos h, e]
    exact eqAt_ok 60 d p A s y v cs as hr rv (by simpa using List.all_eq_true.mp ok d hd) hu
  · refine mem_any r fun u d cs h1 h2 hr => ?_
    have h : ∃ d cs, Reads s.heap u d cs := ⟨d, cs, hr⟩
    have q := Classical.choose_spec h
    obtain ⟨cs', q⟩ := q
    have e : Classical.choose h = d := (PySem.Reads.unique q _ _ hr).1
    rw [dif_pos h, e]
theorem reads_seq {s : Shared} {u : Value} {ds : List PD} {as : List Addr} (r : Reads s.heap u (.list ds) as) : ∃ l vs bs, u = .ref l ∧ s.heap.IsList l vs ∧ ReadsAll s.heap vs.toList ds bs := by
  cases r with | list h1 h2 h3 h4 => exact ⟨_, _, _, rfl, ⟨_, h1, h2, _, h3⟩, h4⟩
theorem reads_tup {s : Shared} {u : Value} {ds : List PD} {as : List Addr} (r : Reads s.heap u (.tuple ds) as) : ∃ l vs bs, u = .ref l ∧ s.heap.IsTuple l vs ∧ ReadsAll s.heap vs.toList ds bs := by
  cases r with | tuple h1 h2 h3 h4 => exact ⟨_, _, _, rfl, ⟨_, h1, h2, _, h3⟩, h4⟩
theorem inP_str {neg : Bool} {i j : Str} : inP neg (.str i) (.str j) = some (.bool (if neg then !subS i j else subS i j)) := rfl
theorem inP_list {neg : Bool} {p : PD} {ds : List PD} : inP neg p (.list ds) = if memOk p ds = true then some (.bool (if neg then !memB p ds else memB p ds)) else none := by cases p <;> rfl
theorem inP_tup {neg : Bool} {p : PD} {ds : List PD} : inP neg p (.tuple ds) = if memOk p ds = true then some (.bool (if neg then !memB p ds else memB p ds)) else none := by cases p <;> rfl
theorem g_in (hu : X.A.units + 64 < cLine) : G2 X (compareOp .In) (inP false) := .mk fun wd p q r h => by
  cases q with
  | str j =>
    cases p <;> simp only [inP, reduceCtorEq] at h
    cases h
    exact OpR.imp op_in_str fun x y H Q ⟨_, h1, h2, k⟩ => by cases h1.str; cases h2.str; exact ⟨_, _, rfl, rfl, k _ _ (Same.refl _) (.bl _)⟩
  | list ds =>
    rw [inP_list] at h
    split at h <;> cases h
    rename_i ok
    intro pins s σ H x y v u Q I rx ry ⟨_, h1, h2, k⟩
    obtain ⟨as, r1, _⟩ := h1.reads I rx
    obtain ⟨bs, r2, _⟩ := h2.reads I ry
    obtain ⟨l, vs, cs, rfl, hl, r3⟩ := reads_seq r2
    obtain ⟨e, e1, e2⟩ := mem_run (A := X.A.in1) r1 (by show X.A.units + 1 + 60 < cLine; omega) r3 ok
    refine SeqAt.in_listAt e hl (fun z hz => e1 z (by simpa using hz)) ⟨.bl _, H, I, rfl, ?_⟩
    rw [show vs.any e = vs.toList.any e by simp, e2]
    exact k _ _ (Same.refl _) (.bl _)
  | tuple ds =>
    rw [inP_tup] at h
    split at h <;> cases h
    rename_i ok
    intro pins s σ H x y v u Q I rx ry ⟨_, h1, h2, k⟩
    obtain ⟨as, r1, _⟩ := h1.reads I rx
    obtain ⟨bs, r2, _⟩ := h2.reads I ry
    obtain ⟨l, vs, cs, rfl, hl, r3⟩ := reads_tup r2
    obtain ⟨e, e1, e2⟩ := mem_run (A := X.A.in1) r1 (by show X.A.units + 1 + 60 < cLine; omega) r3 ok
    refine SeqAt.in_tupleAt e hl (fun z hz => e1 z (by simpa using hz)) ⟨.bl _, H, I, rfl, ?_⟩
    rw [show vs.any e = vs.toList.any e by simp, e2]
    exact k _ _ (Same.refl _) (.bl _)
  | _ => cases p <;> simp [inP] at h
theorem g_notin (hu : X.A.units + 64 < cLine) : G2 X (compareOp .NotIn) (inP true) := .mk fun wd p q r h => by
  cases q with
  | str j =>
    cases p <;> simp only [inP, reduceCtorEq] at h
    cases h
    exact OpR.imp op_notin_str fun x y H Q ⟨_, h1, h2, k⟩ => by cases h1.str; cases h2.str; exact ⟨_, _, rfl, rfl, k _ _ (Same.refl _) (.bl _)⟩
  | list ds =>
    rw [inP_list] at h
    split at h <;> cases h
    rename_i ok
    intro pins s σ H x y v u Q I rx ry ⟨_, h1, h2, k⟩
    obtain ⟨as, r1, _⟩ := h1.reads I rx
    obtain ⟨bs, r2, _⟩ := h2.reads I ry
    obtain ⟨l, vs, cs, rfl, hl, r3⟩ := reads_seq r2
    obtain ⟨e, e1, e2⟩ := mem_run (A := X.A.in1) r1 (by show X.A.units + 1 + 60 < cLine; omega) r3 ok
    refine SeqAt.notIn_listAt e hl (fun z hz => e1 z (by simpa using hz)) ⟨.bl _, H, I, rfl, ?_⟩
    rw [show vs.any e = vs.toList.any e by simp, e2]
    exact k _ _ (Same.refl _) (.bl _)
  | tuple ds =>
    rw [inP_tup] at h
    split at h <;> cases h
    rename_i ok
    intro pins s σ H x y v u Q I rx ry ⟨_, h1, h2, k⟩
    obtain ⟨as, r1, _⟩ := h1.reads I rx
    obtain ⟨bs, r2, _⟩ := h2.reads I ry
    obtain ⟨l, vs, cs, rfl, hl, r3⟩ := reads_tup r2
    obtain ⟨e, e1, e2⟩ := mem_run (A := X.A.in1) r1 (by show X.A.units + 1 + 60 < cLine; omega) r3 ok
    refine SeqAt.notIn_tupleAt e hl (fun z hz => e1 z (by simpa using hz)) ⟨.bl _, H, I, rfl, ?_⟩
    rw [show vs.any e = vs.toList.any e by simp, e2]
    exact k _ _ (Same.refl _) (.bl _)
  | _ => cases p <;> simp [inP] at h
/-! is None, is True, is False (the right one) -/
def isP (neg : Bool) : PD → PD → Option PD
  | .bool a, .bool b => some (.bool (if neg then !decide (a = b) else decide (a = b)))
  | .none, .none => some (.bool (!neg))
  | _, .none => some (.bool neg)
  | .none, .bool _ => some (.bool neg)
  | .int _, .bool _ => some (.bool neg)
  | .str _, .bool _ => some (.bool neg)
  | _, _ => none
def isNone : PD → Bool
  | .none => true
  | _ => false
theorem now_non {K : PySem.W.Frag} {H : Hp} {w : Wd} {v : V} {p : PD} (h : Now K H w v p) : decide (v = .non) = isNone p := by
  cases h with
  | fz h => cases h <;> rfl
  | cel h a => rfl
theorem g_is : G2 X (compareOp .Is) (isP false) := .mk fun wd p q r h => by
  cases q with
  | none =>
    refine OpR.imp op_isN fun x y H Q ⟨_, h1, h2, k⟩ => ⟨h2.none, ?_⟩
    rw [now_non h1]
    have e : r = .bool (isNone p) := by cases p <;> simp [isP] at h <;> exact h.symm
    subst e
    exact k _ _ (Same.refl _) (.bl _)
  | bool b =>
    cases p with
    | bool a =>
      simp [isP] at h
      subst h
      exact OpR.imp op_is_bl fun x y H Q ⟨_, h1, h2, k⟩ => by cases h1.bool; cases h2.bool; exact ⟨_, _, rfl, rfl, k _ _ (Same.refl _) (.bl _)⟩
    | none =>
      simp [isP] at h; subst h
      intro pins s σ H x y v u Q I rx ry ⟨_, h1, h2, k⟩
      cases h1.none; cases h2.bool; cases rx; cases ry
      exact wpAny_is_other rfl (fun z => nomatch z) ⟨.bl false, H, I, rfl, k _ _ (Same.refl _) (.bl _)⟩
    | int i =>
      simp [isP] at h; subst h
      intro pins s σ H x y v u Q I rx ry ⟨_, h1, h2, k⟩
      cases h1.int; cases h2.bool; obtain ⟨t, rfl⟩ := rx; cases ry
      exact wpAny_is_other rfl (fun z => nomatch z) ⟨.bl false, H, I, rfl, k _ _ (Same.refl _) (.bl _)⟩
    | str i =>
      simp [isP] at h; subst h
      intro pins s σ H x y v u Q I rx ry ⟨_, h1, h2, k⟩
      cases h1.str; cases h2.bool; obtain ⟨t, rfl⟩ := rx; cases ry
      exact wpAny_is_other rfl (fun z => nomatch z) ⟨.bl false, H, I, rfl, k _ _ (Same.refl _) (.bl _)⟩
    | _ => simp [isP] at h
  | _ => cases p <;> simp [isP] at h
theorem g_isnot : G2 X (compareOp .IsNot) (isP true) := .mk fun wd p q r h => by
  cases q with
  | none =>
    refine OpR.imp op_notN fun x y H Q ⟨_, h1, h2, k⟩ => ⟨h2.none, ?_⟩
    rw [now_non h1]
    have e : r = .bool (!isNone p) := by cases p <;> simp [isP] at h <;> exact h.symm
    subst e
    exact k _ _ (Same.refl _) (.bl _)
  | bool b =>
    cases p with
    | bool a =>
      simp [isP] at h
      subst h
      exact OpR.imp op_isnot_bl fun x y H Q ⟨_, h1, h2, k⟩ => by cases h1.bool; cases h2.bool; exact ⟨_, _, rfl, rfl, k _ _ (Same.refl _) (.bl _)⟩
    | none =>
      simp [isP] at h; subst h
      intro pins s σ H x y v u Q I rx ry ⟨_, h1, h2, k⟩
      cases h1.none; cases h2.bool; cases rx; cases ry
      exact wpAny_isNot_other rfl (fun z => nomatch z) ⟨.bl true, H, I, rfl, k _ _ (Same.refl _) (.bl _)⟩
    | int i =>
      simp [isP] at h; subst h
      intro pins s σ H x y v u Q I rx ry ⟨_, h1, h2, k⟩
      cases h1.int; cases h2.bool; obtain ⟨t, rfl⟩ := rx; cases ry
      exact wpAny_isNot_other rfl (fun z => nomatch z) ⟨.bl true, H, I, rfl, k _ _ (Same.refl _) (.bl _)⟩
    | str i =>
      simp [isP] at h; subst h
      intro pins s σ H x y v u Q I rx ry ⟨_, h1, h2, k⟩
      cases h1.str; cases h2.bool; obtain ⟨t, rfl⟩ := rx; cases ry
      exact wpAny_isNot_other rfl (fun z => nomatch z) ⟨.bl true, H, I, rfl, k _ _ (Same.refl _) (.bl _)⟩
    | _ => simp [isP] at h
  | _ => cases p <;> simp [isP] at h
end
end DL

set_option Elab.async false
set_option linter.all false
set_option maxRecDepth 100000
set_option maxHeartbeats 4000000
/-! DLe: subscripts, slices, calls of builtins by data. -/
namespace DL
open PySem PySem.Spec PyProof.Rows L2

inductive NowA (K : PySem.W.Frag) (H : Hp) (w : Wd) : List V → List PD → Prop
  | nil : NowA K H w [] []
  | cons {v vs p ps} : Now K H w v p → NowA K H w vs ps → NowA K H w (v :: vs) (p :: ps)
def derefs (S : Store) : List D → Option (List PD)
  | [] => some []
  | d :: ds => (derefD S d).bind fun p => (derefs S ds).map fun ps => p :: ps
theorem NowA.of {K : PySem.W.Frag} {H : Hp} {w : Wd} {S : Store} (st : Stt K H w S) : ∀ {vs : List V} {ds : List D} {ps : List PD}, RpAll K H w vs ds → derefs S ds = some ps → NowA K H w vs ps
  | _, _, _, .nil, h => by cases h; exact .nil
  | _, _, _, .cons (d := d) (ds := ds) a b, h => by
    cases e : derefD S d with
    | none => simp [derefs, e] at h
    | some p =>
      cases e2 : derefs S ds with
      | none => simp [derefs, e, e2] at h
      | some ps =>
        simp [derefs, e, e2] at h
        subst h
        exact .cons (Now.of st a e) (NowA.of st b e2)
/-! ### a call of something known, by data -/
def cG (K : PySem.W.Frag) (g : List PD → Option PD) : List V → Hp → VK → Prop := fun xs H Q => ∃ w ps r, (∀ a, H a = none → w.out a) ∧ NowA K H w xs ps ∧ g ps = some r ∧ ∀ v H', Same H H' → Fz K H' w v r → Q v H'
def blt (g : List PD → Option PD) (fa : DEnv → M (List D)) : DEnv → M D := fun δ S => (fa δ S).bind fun ds S1 => (opt (derefs S1 ds) S1).bind fun ps S1 => (opt (g ps) S1).bind fun r S1 => .ok (.dat r) S1
def GC (X : Cx) (f : Value) (g : List PD → Option PD) : Prop := CallR X f (cG X.K g)
theorem tCB_of {X : Cx} {W : WX} {g : List PD → Option PD} {fa : DEnv → M (List D)} {σ : L2.St} {H : Hp} {Q : VK} (h : tG X.mg X.K W (RpD X.K) (blt g fa) σ H Q) :
    tCB (cG X.K g) (tG X.mg X.K W (RpA X.K) fa) σ H Q := by
  obtain ⟨δ, w, S, env, st, h⟩ := h
  refine ⟨δ, w, S, env, st, PostG.bind h fun x H1 w1 a S1 e1 st1 rx h => ?_⟩
  obtain ⟨ps, hp, h⟩ := h.opt
  obtain ⟨r, hr, h⟩ := h.opt
  exact ⟨w1, ps, r, fun a ha => st1.fresh ha, NowA.of st1 rx hp, hr, fun v H' sm fz => h.ok (.same sm) (st1.same sm) fz⟩
theorem GC.mk {X : Cx} {f : Value} {g : List PD → Option PD}
    (h : ∀ w ps r, g ps = some r → CallR X f fun xs H Q => (∀ a, H a = none → w.out a) ∧ NowA X.K H w xs ps ∧ ∀ v H', Same H H' → Fz X.K H' w v r → Q v H') : GC X f g := by
  intro pins s σ H xs us Q I rv q
  obtain ⟨w, ps, r, h1, h2, h3, h4⟩ := q
  exact h w ps r h3 pins s σ H xs us Q I rv ⟨h1, h2, h4⟩
theorem CallR.imp {X : Cx} {f : Value} {r r' : List V → Hp → VK → Prop} (h : CallR X f r) (k : ∀ xs H Q, r' xs H Q → r xs H Q) : CallR X f r' := fun pins s σ H xs us Q I rv q => h pins s σ H xs us Q I rv (k _ _ _ q)
theorem NowA.one {K : PySem.W.Frag} {H : Hp} {w : Wd} {vs : List V} {p : PD} (h : NowA K H w vs [p]) : ∃ v, vs = [v] ∧ Now K H w v p := by cases h with | cons a b => cases b; exact ⟨_, rfl, a⟩
theorem NowA.two {K : PySem.W.Frag} {H : Hp} {w : Wd} {vs : List V} {p q : PD} (h : NowA K H w vs [p, q]) : ∃ v u, vs = [v, u] ∧ Now K H w v p ∧ Now K H w u q := by
  cases h with | cons a b => cases b with | cons c d => cases d; exact ⟨_, _, rfl, a, c⟩
/-- data of one shape -/
theorem fzA_int {K : PySem.W.Frag} {H : Hp} {w : Wd} : ∀ {ns : List Int} {vs : List V}, FzA K H w vs (ns.map PyData.int) → vs = ns.map V.int
  | [], _, h => by cases h; rfl
  | n :: ns, _, h => by cases h with | cons a b => cases a; rw [fzA_int b]; rfl
theorem fzA_bool {K : PySem.W.Frag} {H : Hp} {w : Wd} : ∀ {ns : List Bool} {vs : List V}, FzA K H w vs (ns.map PyData.bool) → vs = ns.map V.bl
  | [], _, h => by cases h; rfl
  | n :: ns, _, h => by cases h with | cons a b => cases a; rw [fzA_bool b]; rfl
theorem fzA_str {K : PySem.W.Frag} {H : Hp} {w : Wd} : ∀ {ns : List Str} {vs : List V}, FzA K H w vs (ns.map PyData.str) → vs = ns.map V.str
  | [], _, h => by cases h; rfl
  | n :: ns, _, h => by cases h with | cons a b => cases a; rw [fzA_str b]; rfl
theorem fz_ints {K : PySem.W.Frag} {H : Hp} {w : Wd} : ∀ ns : List Int, FzA K H w (ns.map V.int) (ns.map PyData.int)
  | [] => .nil
  | n :: ns => .cons (.int n) (fz_ints ns)
theorem fz_strs {K : PySem.W.Frag} {H : Hp} {w : Wd} : ∀ ns : List Str, FzA K H w (ns.map V.str) (ns.map PyData.str)
  | [] => .nil
  | n :: ns => .cons (.str n) (fz_strs ns)
def intsOf : List PD → Option (List Int)
  | [] => some []
  | .int i :: r => (intsOf r).map fun l => i :: l
  | _ :: _ => none
def boolsOf : List PD → Option (List Bool)
  | [] => some []
  | .bool i :: r => (boolsOf r).map fun l => i :: l
  | _ :: _ => none
def strsOf : List PD → Option (List Str)
  | [] => some []
  | .str i :: r => (strsOf r).map fun l => i :: l
  | _ :: _ => none
theorem intsOf_eq : ∀ {ds : List PD} {ns : List Int}, intsOf ds = some ns → ds = ns.map PyData.int
  | [], _, h => by cases h; rfl
  | d :: ds, ns, h => by
    cases d <;> simp only [intsOf, reduceCtorEq] at h
    cases e : intsOf ds with
    | none => rw [e] at h; cases h
    | some l => rw [e] at h; cases h; rw [intsOf_eq e]; rfl
theorem boolsOf_eq : ∀ {ds : List PD} {ns : List Bool}, boolsOf ds = some ns → ds = ns.map PyData.bool
  | [], _, h => by cases h; rfl
  | d :: ds, ns, h => by
    cases d <;> simp only [boolsOf, reduceCtorEq] at h
    cases e : boolsOf ds with
    | none => rw [e] at h; cases h
    | some l => rw [e] at h; cases h; rw [boolsOf_eq e]; rfl
theorem strsOf_eq : ∀ {ds : List PD} {ns : List Str}, strsOf ds = some ns → ds = ns.map PyData.str
  | [], _, h => by cases h; rfl
  | d :: ds, ns, h => by
    cases d <;> simp only [strsOf, reduceCtorEq] at h
    cases e : strsOf ds with
    | none => rw [e] at h; cases h
    | some l => rw [e] at h; cases h; rw [strsOf_eq e]; rfl
theorem intsOf_map : ∀ ns : List Int, intsOf (ns.map PyData.int) = some ns
  | [] => rfl
  | n :: ns => by simp [intsOf, intsOf_map ns]
theorem boolsOf_map : ∀ ns : List Bool, boolsOf (ns.map PyData.bool) = some ns
  | [] => rfl
  | n :: ns => by simp [boolsOf, boolsOf_map ns]
theorem strsOf_map : ∀ ns : List Str, strsOf (ns.map PyData.str) = some ns
  | [] => rfl
  | n :: ns => by simp [strsOf, strsOf_map ns]
/-! ### the builtins -/
def lenP : List PD → Option PD
  | [.list ds] => some (.int ds.length)
  | [.tuple ds] => some (.int ds.length)
  | [.str z] => if z.length ≤ sizeLine then some (.int z.length) else none
  | _ => none
def absP : List PD → Option PD
  | [.int i] => some (.int (if i < 0 then -i else i))
  | _ => none
def maxP : List PD → Option PD
  | [.int i, .int j] => some (.int (if j > i then j else i))
  | _ => none
def minP : List PD → Option PD
  | [.int i, .int j] => some (.int (if j < i then j else i))
  | _ => none
def intP : List PD → Option PD
  | [.int i] => some (.int i)
  | [.bool k] => some (.int (if k then 1 else 0))
  | _ => none
def boolP : List PD → Option PD
  | [.int i] => some (.bool (i != 0))
  | [.bool k] => some (.bool k)
  | _ => none
def strP : List PD → Option PD
  | [.int i] => if i.natAbs.log2 < 1920 then some (.str (toString i)) else none
  | [.str z] => some (.str z)
  | _ => none
def tupleP : List PD → Option PD
  | [.list ds] => some (.tuple ds)
  | [.tuple ds] => some (.tuple ds)
  | _ => none
def signsP (z : Str) : List PD := z.cps.toList.map fun c => PyData.str ⟨#[c]⟩
def listP : List PD → Option PD
  | [.list ds] => some (.list ds)
  | [.tuple ds] => some (.list ds)
  | [.str z] => if z.length ≤ sizeLine then some (.list (signsP z)) else none
  | _ => none
def allP : List PD → Option PD
  | [.list ds] => (boolsOf ds).map fun l => .bool (l.all id)
  | _ => none
def anyP : List PD → Option PD
  | [.list ds] => (boolsOf ds).map fun l => .bool (l.any id)
  | _ => none
def sumP : List PD → Option PD
  | [.list ds] => (intsOf ds).map fun l => .int l.sum
  | _ => none
def sortI (l : List Int) : List Int := l.mergeSort (· ≤ ·)
def sortedP : List PD → Option PD
  | [.list ds] => (intsOf ds).map fun l => .list ((sortI l).map PyData.int)
  | _ => none
def divmodP : List PD → Option PD
  | [.int i, .int j] => if 0 < j ∧ j < 1073741824 then some (.tuple [.int (i / j), .int (i % j)]) else none
  | _ => none
theorem sort_uniq : ∀ {l m : List Int}, l.Perm m → l.Pairwise (· ≤ ·) → m.Pairwise (· ≤ ·) → l = m := by
  intro l
  induction l with
  | nil => intro m h _ _; exact (List.Perm.nil_eq h)
  | cons a l ih =>
    intro m h p q
    cases m with
    | nil => exact absurd h.symm.nil_eq (by simp)
    | cons b m =>
      have hab : a = b := by
        have h1 : a ∈ b :: m := h.subset List.mem_cons_self
        have h2 : b ∈ a :: l := h.symm.subset List.mem_cons_self
        rcases List.mem_cons.mp h1 with e | h1
        · exact e
        · rcases List.mem_cons.mp h2 with e | h2
          · exact e.symm
          · exact Int.le_antisymm (List.rel_of_pairwise_cons p h2) (List.rel_of_pairwise_cons q h1)
      subst hab
      rw [ih ((List.perm_cons a).mp h) p.tail q.tail]
theorem sortI_perm (l : List Int) : (sortI l).Perm l := List.mergeSort_perm l _
theorem sortI_pw (l : List Int) : (sortI l).Pairwise (· ≤ ·) := by
  have := List.pairwise_mergeSort (le := fun a b : Int => decide (a ≤ b)) (fun a b c h1 h2 => by simp at *; omega) (fun a b => by simp; omega) l
  exact this.imp fun h => by simpa using h
section
variable {X : Cx}
theorem c_len : GC X (.builtin "len") lenP := .mk fun w ps r h => by
  unfold lenP at h
  split at h
  · cases h
    refine CallR.imp call_len fun xs H Q ⟨_, h1, k⟩ => ?_
    obtain ⟨v, rfl, n⟩ := h1.one
    obtain ⟨a, xs, rfl, l, f⟩ := n.list
    exact ⟨_, _, rfl, Or.inl ⟨xs, l.seq, rfl⟩, by rw [f.length]; exact k _ _ (Same.refl _) (.int _)⟩
  · cases h
    refine CallR.imp call_len fun xs H Q ⟨_, h1, k⟩ => ?_
    obtain ⟨v, rfl, n⟩ := h1.one
    obtain ⟨a, xs, rfl, l, f⟩ := n.tup
    exact ⟨_, _, rfl, Or.inr ⟨xs, l.seq, rfl⟩, by rw [f.length]; exact k _ _ (Same.refl _) (.int _)⟩
  · split at h <;> cases h
    rename_i hz
    refine CallR.imp call_len fun xs H Q ⟨_, h1, k⟩ => ?_
    obtain ⟨v, rfl, n⟩ := h1.one
    cases n.str
    exact ⟨_, _, rfl, ⟨hz, rfl⟩, k _ _ (Same.refl _) (.int _)⟩
  · cases h
theorem c_abs : GC X (.builtin "abs") absP := .mk fun w ps r h => by
  unfold absP at h
  split at h <;> cases h
  refine CallR.imp call_abs fun xs H Q ⟨_, h1, k⟩ => ?_
  obtain ⟨v, rfl, n⟩ := h1.one
  cases n.int
  exact ⟨_, rfl, k _ _ (Same.refl _) (.int _)⟩
theorem c_max (hc : X.calm = true) : GC X (.builtin "max") maxP := .mk fun w ps r h => by
  unfold maxP at h
  split at h <;> cases h
  refine CallR.imp (call_max2 hc) fun xs H Q ⟨_, h1, k⟩ => ?_
  obtain ⟨v, u, rfl, n, m⟩ := h1.two
  cases n.int; cases m.int
  exact ⟨_, _, rfl, k _ _ (Same.refl _) (.int _)⟩
theorem c_min (hc : X.calm = true) : GC X (.builtin "min") minP := .mk fun w ps r h => by
  unfold minP at h
  split at h <;> cases h
  refine CallR.imp (call_min2 hc) fun xs H Q ⟨_, h1, k⟩ => ?_
  obtain ⟨v, u, rfl, n, m⟩ := h1.two
  cases n.int; cases m.int
  exact ⟨_, _, rfl, k _ _ (Same.refl _) (.int _)⟩
theorem c_int : GC X (.type "int") intP := .mk fun w ps r h => by
  unfold intP at h
  split at h <;> cases h
  · refine CallR.imp call_int1 fun xs H Q ⟨_, h1, k⟩ => ?_
    obtain ⟨v, rfl, n⟩ := h1.one
    cases n.int
    exact .inl ⟨_, rfl, k _ _ (Same.refl _) (.int _)⟩
  · refine CallR.imp call_int1 fun xs H Q ⟨_, h1, k⟩ => ?_
    obtain ⟨v, rfl, n⟩ := h1.one
    cases n.bool
    exact .inr ⟨_, rfl, k _ _ (Same.refl _) (.int _)⟩
theorem c_bool : GC X (.type "bool") boolP := .mk fun w ps r h => by
  unfold boolP at h
  split at h <;> cases h
  · refine CallR.imp call_bool1 fun xs H Q ⟨_, h1, k⟩ => ?_
    obtain ⟨v, rfl, n⟩ := h1.one
    cases n.int
    exact .inl ⟨_, rfl, k _ _ (Same.refl _) (.bl _)⟩
  · refine CallR.imp call_bool1 fun xs H Q ⟨_, h1, k⟩ => ?_
    obtain ⟨v, rfl, n⟩ := h1.one
    cases n.bool
    exact .inr ⟨_, rfl, k _ _ (Same.refl _) (.bl _)⟩
theorem c_str : GC X (.type "str") strP := .mk fun w ps r h => by
  unfold strP at h
  split at h
  · split at h <;> cases h
    rename_i hz
    refine CallR.imp call_str_int fun xs H Q ⟨_, h1, k⟩ => ?_
    obtain ⟨v, rfl, n⟩ := h1.one
    cases n.int
    exact ⟨_, rfl, hz, k _ _ (Same.refl _) (.str _)⟩
  · cases h
    refine CallR.imp SkE.call_str_str fun xs H Q ⟨_, h1, k⟩ => ?_
    obtain ⟨v, rfl, n⟩ := h1.one
    cases n.str
    exact ⟨_, rfl, k _ _ (Same.refl _) (.str _)⟩
  · cases h
theorem c_tuple : GC X (.type "tuple") tupleP := .mk fun w ps r h => by
  unfold tupleP at h
  split at h <;> cases h
  · refine CallR.imp call_tuple_of fun xs H Q ⟨fr, h1, k⟩ => ?_
    obtain ⟨v, rfl, n⟩ := h1.one
    obtain ⟨a, xs, rfl, l, f⟩ := n.list
    exact ⟨_, _, rfl, .inl ⟨l.seq, fun p hp => k _ _ (same_new hp) (fz_newT fr hp f)⟩⟩
  · refine CallR.imp call_tuple_of fun xs H Q ⟨fr, h1, k⟩ => ?_
    obtain ⟨v, rfl, n⟩ := h1.one
    obtain ⟨a, xs, rfl, l, f⟩ := n.tup
    exact ⟨_, _, rfl, .inr ⟨l.seq, k _ _ (Same.refl _) (.tup l f)⟩⟩
theorem vals_signs {z : Str} {acc : Array Value} (h : ItemsOf (SignAt z) acc z.cps.size) : Vals (z.cps.toList.map fun c => V.str ⟨#[c]⟩) acc.toList := by
  refine vals_of_at (by simp [h.1]) fun j x u h1 h2 => ?_
  obtain ⟨c, t, hc, rfl⟩ := h.2 j u (by simpa using h2)
  rw [List.getElem?_map] at h1
  have hc2 : z.cps.toList[j]? = some c := by simpa using hc
  rw [hc2] at h1
  cases h1
  exact ⟨t, rfl⟩
theorem call_list_signs (hh : X.A.handled = none) : CallR X (.type "list") (fun xs H Q => ∃ z : Str, xs = [.str z] ∧ z.length ≤ sizeLine ∧ ∀ l, H l = none → Q (.ref l) (upd H l (.lst (z.cps.toList.map fun c => V.str ⟨#[c]⟩)))) := by
  intro pins s σ H xs us Q I r h
  obtain ⟨z, rfl, hz, q⟩ := h
  obtain ⟨u, rfl, t, rfl⟩ := vals1 r
  refine call_list_str hh z t (fun h' tk acc c kp e hi => ?_) hz
  have hv := vals_signs hi
  refine ⟨.ref s.heap.objs.size, _, I.laid (t' := tk) kp (Nat.le_refl _) (show ObjOk X.prog X.w _ h' _ (.lst (z.cps.toList.map fun c => V.str ⟨#[c]⟩)) from ⟨by rw [List.length_map]; exact hz, acc.toList, c, hv, by simpa using e⟩), rfl, q _ (I.hok.fresh (Nat.le_refl _))⟩
theorem fz_signs {K : PySem.W.Frag} {H : Hp} {w : Wd} : ∀ l : List Nat, FzA K H w (l.map fun c => V.str ⟨#[c]⟩) (l.map fun c => PyData.str ⟨#[c]⟩)
  | [] => .nil
  | n :: ns => .cons (.str _) (fz_signs ns)
theorem c_list (hh : X.A.handled = none) : GC X (.type "list") listP := .mk fun w ps r h => by
  unfold listP at h
  split at h
  · cases h
    refine CallR.imp call_list_of fun xs H Q ⟨fr, h1, k⟩ => ?_
    obtain ⟨v, rfl, n⟩ := h1.one
    obtain ⟨a, xs, rfl, l, f⟩ := n.list
    exact ⟨_, _, rfl, .inl l.seq, fun p hp => k _ _ (same_new hp) (fz_new fr hp f)⟩
  · cases h
    refine CallR.imp call_list_of fun xs H Q ⟨fr, h1, k⟩ => ?_
    obtain ⟨v, rfl, n⟩ := h1.one
    obtain ⟨a, xs, rfl, l, f⟩ := n.tup
    exact ⟨_, _, rfl, .inr l.seq, fun p hp => k _ _ (same_new hp) (fz_new fr hp f)⟩
  · split at h <;> cases h
    rename_i hz
    refine CallR.imp (call_list_signs hh) fun xs H Q ⟨fr, h1, k⟩ => ?_
    obtain ⟨v, rfl, n⟩ := h1.one
    cases n.str
    exact ⟨_, rfl, hz, fun p hp => k _ _ (same_new hp) (fz_new fr hp (fz_signs _))⟩
  · cases h
theorem c_all (hc : X.calm = true) : GC X (.builtin "all") allP := .mk fun w ps r h => by
  unfold allP at h
  split at h
  · rename_i ds
    cases e : boolsOf ds with
    | none => rw [e] at h; cases h
    | some l =>
      rw [e] at h; cases h
      refine CallR.imp (cr_all hc) fun xs H Q ⟨_, h1, k⟩ => ?_
      obtain ⟨v, rfl, n⟩ := h1.one
      rw [boolsOf_eq e] at n
      obtain ⟨a, xs, rfl, l1, f⟩ := n.list
      cases fzA_bool f
      exact ⟨_, _, rfl, l1.seq, k _ _ (Same.refl _) (.bl _)⟩
  · cases h
theorem c_any (hc : X.calm = true) : GC X (.builtin "any") anyP := .mk fun w ps r h => by
  unfold anyP at h
  split at h
  · rename_i ds
    cases e : boolsOf ds with
    | none => rw [e] at h; cases h
    | some l =>
      rw [e] at h; cases h
      refine CallR.imp (cr_any hc) fun xs H Q ⟨_, h1, k⟩ => ?_
      obtain ⟨v, rfl, n⟩ := h1.one
      rw [boolsOf_eq e] at n
      obtain ⟨a, xs, rfl, l1, f⟩ := n.list
      cases fzA_bool f
      exact ⟨_, _, rfl, l1.seq, k _ _ (Same.refl _) (.bl _)⟩
  · cases h
theorem c_sum (hc : X.calm = true) : GC X (.builtin "sum") sumP := .mk fun w ps r h => by
  unfold sumP at h
  split at h
  · rename_i ds
    cases e : intsOf ds with
    | none => rw [e] at h; cases h
    | some l =>
      rw [e] at h; cases h
      refine CallR.imp (cr_sum hc) fun xs H Q ⟨_, h1, k⟩ => ?_
      obtain ⟨v, rfl, n⟩ := h1.one
      rw [intsOf_eq e] at n
      obtain ⟨a, xs, rfl, l1, f⟩ := n.list
      cases fzA_int f
      exact ⟨_, _, rfl, l1.seq, k _ _ (Same.refl _) (.int _)⟩
  · cases h
theorem c_sorted : GC X (.builtin "sorted") sortedP := .mk fun w ps r h => by
  unfold sortedP at h
  split at h
  · rename_i ds
    cases e : intsOf ds with
    | none => rw [e] at h; cases h
    | some l =>
      rw [e] at h; cases h
      refine CallR.imp cr_sortedI fun xs H Q ⟨fr, h1, k⟩ => ?_
      obtain ⟨v, rfl, n⟩ := h1.one
      rw [intsOf_eq e] at n
      obtain ⟨a, xs, rfl, l1, f⟩ := n.list
      cases fzA_int f
      refine ⟨_, _, rfl, l1.seq, fun ns' p hp hw hn => ?_⟩
      have e2 : ns' = sortI l := sort_uniq (hp.trans (sortI_perm l).symm) hw (sortI_pw l)
      subst e2
      exact k _ _ (same_new hn) (fz_new fr hn (fz_ints _))
  · cases h
theorem c_divmod : GC X (.builtin "divmod") divmodP := .mk fun w ps r h => by
  unfold divmodP at h
  split at h
  · split at h <;> cases h
    rename_i hz
    refine CallR.imp call_divmod fun xs H Q ⟨fr, h1, k⟩ => ?_
    obtain ⟨v, u, rfl, n, m⟩ := h1.two
    cases n.int; cases m.int
    exact ⟨_, _, rfl, hz, fun p hp => k _ _ (same_new hp) (fz_newT fr hp (.cons (.int _) (.cons (.int _) .nil)))⟩
  · cases h
end
end DL

set_option Elab.async false
set_option linter.all false
set_option maxRecDepth 100000
set_option maxHeartbeats 4000000
/-! DLf: expressions and tests by data: names, constants, displays, truth, and, or, not, subscripts, slices, isinstance. -/
namespace DL
open PySem PySem.Spec PyProof.Rows L2

/-! ### names, constants -/
def varE (i : Nat) : DEnv → M D := fun δ S => match δ[i]? with
  | some (some d) => .ok d S
  | _ => .bad
def conE (p : PD) : DEnv → M D := fun _ S => .ok (.dat p) S
section
variable {X : Cx} {W : WX} {a b c e : Expr} {es : List Expr} {fa fb fc : DEnv → M D} {fs : DEnv → M (List D)} {pos : Pos}
theorem se_var {i : Nat} {x : Str} (hN : X.N[i]? = some x) (hv : Vis X.env.scope x) (hd : (x == ("__debug__" : Str)) = false) (hcd : (x == ("__classdict__" : Str)) = false) : SE X W (.Name x pos) (varE i) :=
  ⟨PE.imp (pe_var hN hv hd hcd) fun σ H Q ⟨δ, w, S, env, st, h⟩ => by
    unfold varE at h
    split at h
    · rename_i d e
      obtain ⟨v, e1, r⟩ := env.val i d e
      exact ⟨v, e1, h.ok (.refl _ _) st r⟩
    · exact h.elim⟩
theorem se_con {p : PD} {v : V} (h : PE X e (tC v)) (hf : ∀ K H w, Fz K H w v p) : SE X W e (conE p) :=
  ⟨PE.imp h fun σ H Q ⟨δ, w, S, env, st, h⟩ => h.ok (.refl _ _) st (hf _ _ _)⟩
theorem se_int {i : Int} {j} : SE X W (.Constant (.int i) j pos) (conE (.int i)) := se_con pe_int fun _ _ _ => .int i
theorem se_bl {i : Bool} {j} : SE X W (.Constant (.bool i) j pos) (conE (.bool i)) := se_con pe_bl fun _ _ _ => .bl i
theorem se_str {i : Str} {j} : SE X W (.Constant (.str i) j pos) (conE (.str i)) := se_con pe_str fun _ _ _ => .str i
theorem se_non {j} : SE X W (.Constant .none j pos) (conE .none) := se_con pe_non fun _ _ _ => .non
/-- a constant of the module: it stands for data whatever the heap -/
structure KDat (K : PySem.W.Frag) (v : V) (p : PD) : Prop where
  fz : ∀ H w, Fz K H w v p
  tu : ∀ a ds, v = .ref a → p = .tuple ds → ∃ o, K.lookup a = some o ∧ o.cls = .type "tuple" ∧ o.dict = none
theorem se_glob {x : Str} {u : Value} {v : V} {p : PD} (hg : Gl X x) (hm : X.mg x = some u) (r : RelV v u) (hd : (x == ("__debug__" : Str)) = false) (hf : KDat X.K v p) : SE X W (.Name x pos) (conE p) :=
  ⟨PE.imp (pe_glob hg hm r hd) fun σ H Q ⟨δ, w, S, env, st, h⟩ => h.ok (.refl _ _) st (hf.fz _ _)⟩

/-! ### argument lists, displays -/
def nilA : DEnv → M (List D) := fun _ S => .ok [] S
def consA (fa : DEnv → M D) (fs : DEnv → M (List D)) : DEnv → M (List D) := fun δ S => (fa δ S).bind fun d S1 => (fs δ S1).bind fun ds S2 => .ok (d :: ds) S2
theorem sa_nil : SA X W [] nilA := ⟨PA.imp pa_nil fun σ H Q ⟨δ, w, S, env, st, h⟩ => h.ok (.refl _ _) st .nil⟩
theorem sa_cons (ha : SE X W e fa) (hr : SA X W es fs) (hs : starEach (e :: es) X.env = (false, eval e X.env) :: starEach es X.env) : SA X W (e :: es) (consA fa fs) :=
  ⟨PA.imp (pa_cons ha.pe hr.pa hs) fun σ H Q ⟨δ, w, S, env, st, h⟩ => ⟨δ, w, S, env, st, PostG.bind h fun v H1 w1 d S1 e1 st1 rv h =>
    ⟨δ, w1, S1, env.mono e1, st1, PostG.bind h fun vs H2 w2 ds S2 e2 st2 rs h => h.ok (.refl _ _) st2 (.cons (rv.mono e2) rs)⟩⟩⟩
theorem nowA_fz {K : PySem.W.Frag} {H : Hp} {w : Wd} : ∀ {vs : List V} {ds : List D} {ps : List PD}, RpAll K H w vs ds → (ds = ps.map D.dat) → FzA K H w vs ps
  | _, _, [], .nil, _ => .nil
  | _, _, p :: ps, .cons a b, e => by cases e; exact .cons a (nowA_fz b rfl)
  | _, _, _ :: _, .nil, e => by cases e
  | _, _, [], .cons _ _, e => by cases e
/-- data alone -/
def dats : List D → Option (List PD)
  | [] => some []
  | .dat p :: ds => (dats ds).map fun ps => p :: ps
  | .ref _ :: _ => none
theorem dats_eq : ∀ {ds : List D} {ps : List PD}, dats ds = some ps → ds = ps.map D.dat
  | [], _, h => by cases h; rfl
  | .dat p :: ds, ps, h => by
    simp only [dats] at h
    cases e : dats ds with
    | none => rw [e] at h; cases h
    | some l => rw [e] at h; cases h; rw [dats_eq e]; rfl
  | .ref _ :: _, _, h => by cases h
theorem dats_map : ∀ ps : List PD, dats (ps.map D.dat) = some ps
  | [] => rfl
  | p :: ps => by simp [dats, dats_map ps]
def tupE (fs : DEnv → M (List D)) : DEnv → M D := fun δ S => (fs δ S).bind fun ds S1 => (opt (dats ds) S1).bind fun ps S1 => if ps.length ≤ sizeLine then .ok (.dat (.tuple ps)) S1 else .bad
def lstE (fs : DEnv → M (List D)) : DEnv → M D := fun δ S => (fs δ S).bind fun ds S1 => (opt (dats ds) S1).bind fun ps S1 => if ps.length ≤ sizeLine then .ok (.dat (.list ps)) S1 else .bad
/-- a list display that is to be changed: a new cell -/
def celE (fs : DEnv → M (List D)) : DEnv → M D := fun δ S => (fs δ S).bind fun ds S1 => (opt (dats ds) S1).bind fun ps S1 => if ps.length ≤ sizeLine then .ok (.ref S1.length) (S1 ++ [ps]) else .bad
theorem se_tup {k} (h : SA X W es fs) : SE X W (.Tuple es k pos) (tupE fs) :=
  ⟨PE.imp (pe_tup h.pa) fun σ H Q ⟨δ, w, S, env, st, h⟩ => ⟨δ, w, S, env, st, PostG.bind h fun vs H1 w1 ds S1 e1 st1 rs h => by
    obtain ⟨ps, hp, h⟩ := h.opt
    have f := nowA_fz rs (dats_eq hp)
    split at h
    · rename_i hz
      exact ⟨by rw [f.length]; exact hz, fun p hp => h.ok (.same (same_new hp)) (st1.same (same_new hp)) (fz_newT (fun a => st1.fresh) hp f)⟩
    · exact h.elim⟩⟩
theorem se_lst (h : SA X W es fs) : SE X W (.List es pos) (lstE fs) :=
  ⟨PE.imp (pe_lst h.pa) fun σ H Q ⟨δ, w, S, env, st, h⟩ => ⟨δ, w, S, env, st, PostG.bind h fun vs H1 w1 ds S1 e1 st1 rs h => by
    obtain ⟨ps, hp, h⟩ := h.opt
    have f := nowA_fz rs (dats_eq hp)
    split at h
    · rename_i hz
      exact ⟨by rw [f.length]; exact hz, fun p hp => h.ok (.same (same_new hp)) (st1.same (same_new hp)) (fz_new (fun a => st1.fresh) hp f)⟩
    · exact h.elim⟩⟩
theorem rep_new {K : PySem.W.Frag} {H : Hp} {w : Wd} {S : Store} (st : Stt K H w S) (p : Addr) : RepD K H ⟨w.c ++ [p], w.z⟩ (.ref p) (.ref S.length) := ⟨p, by rw [← st.len]; simp, rfl⟩
theorem se_cel (h : SA X W es fs) : SE X W (.List es pos) (celE fs) :=
  ⟨PE.imp (pe_lst h.pa) fun σ H Q ⟨δ, w, S, env, st, h⟩ => ⟨δ, w, S, env, st, PostG.bind h fun vs H1 w1 ds S1 e1 st1 rs h => by
    obtain ⟨ps, hp, h⟩ := h.opt
    have f := nowA_fz rs (dats_eq hp)
    split at h
    · rename_i hz
      refine ⟨by rw [f.length]; exact hz, fun p hp => ?_⟩
      obtain ⟨ex, st2⟩ := st1.alloc hp f
      exact h.ok ex st2 ⟨p, by rw [← st1.len]; simp, rfl⟩
    · exact h.elim⟩⟩
theorem se_dict0 : SE X W (.Dict [] [] pos) (conE (.dict [])) :=
  ⟨PE.imp pe_dnewK fun σ H Q ⟨δ, w, S, env, st, h⟩ p hp => h.ok (.same (same_new hp)) (st.same (same_new hp)) (.dic upd_same (st.fresh hp) .nil)⟩

/-! ### truth -/
def truP : PD → Option Bool
  | .none => some false
  | .bool b => some b
  | .int i => some (i != 0)
  | .str z => if z.length ≤ sizeLine then some ((z.length : Int) != 0) else none
  | .list ds => some (!ds.isEmpty)
  | .tuple ds => some (!ds.isEmpty)
  | .dict ds => some (!ds.isEmpty)
def trueD (S : Store) (d : D) : Option Bool := (derefD S d).bind truP
theorem isEmpty_len {α β : Type} {xs : List α} {ys : List β} (h : xs.length = ys.length) : xs.isEmpty = ys.isEmpty := by
  cases xs <;> cases ys <;> simp at h ⊢
theorem tru_of {K : PySem.W.Frag} {H : Hp} {w : Wd} {v : V} {p : PD} {k : Bool} (h : Now K H w v p) (e : truP p = some k) : TruV K v H k := by
  cases p with
  | none => cases h.none; cases e; rfl
  | bool b => cases h.bool; cases e; rfl
  | int i => cases h.int; cases e; rfl
  | str z =>
    cases h.str
    simp only [truP] at e
    split at e <;> cases e
    exact ⟨by assumption, rfl⟩
  | list ds =>
    obtain ⟨a, xs, rfl, l, f⟩ := h.list
    cases e
    exact .inl ⟨xs, l.seq, by rw [isEmpty_len f.length]⟩
  | tuple ds =>
    obtain ⟨a, xs, rfl, l, f⟩ := h.tup
    cases e
    exact .inr (.inl ⟨xs, l.seq, by rw [isEmpty_len f.length]⟩)
  | dict kvs =>
    obtain ⟨a, ks, rfl, q, l⟩ := h.dic
    cases e
    exact .inr (.inr ⟨_, l, by cases q <;> rfl⟩)
theorem trueD_of {K : PySem.W.Frag} {H : Hp} {w : Wd} {S : Store} (st : Stt K H w S) {v : V} {d : D} {k : Bool} (r : RepD K H w v d) (h : trueD S d = some k) : TruV K v H k := by
  unfold trueD at h
  cases e : derefD S d with
  | none => rw [e] at h; cases h
  | some p => rw [e] at h; exact tru_of (Now.of st r e) h
def truT (fa : DEnv → M D) : DEnv → M Bool := fun δ S => (fa δ S).bind fun d S1 => (opt (trueD S1 d) S1).bind fun k S1 => .ok k S1
theorem st_truth (ha : SE X W a fa) (he : ∀ whole, isTrue a X.env whole = (do let v ← whole; standAt a.pos; holding [v] (truthy v))) : ST X W a (truT fa) :=
  ⟨PT.imp (pt_truth ha.pe he) fun σ H Q ⟨δ, w, S, env, st, h⟩ => ⟨δ, w, S, env, st, PostG.bind h fun v H1 w1 d S1 e1 st1 rv h => by
    obtain ⟨k, hk, h⟩ := h.opt
    exact ⟨k, trueD_of st1 rv hk, h.ok (.refl _ _) st1 rfl⟩⟩⟩
def notT (ft : DEnv → M Bool) : DEnv → M Bool := fun δ S => (ft δ S).bind fun k S1 => .ok (!k) S1
theorem st_not {ft : DEnv → M Bool} (ha : ST X W a ft) : ST X W (.UnaryOp .Not a pos) (notT ft) :=
  ⟨PT.imp (pt_not ha.pt) fun σ H Q ⟨δ, w, S, env, st, h⟩ => ⟨δ, w, S, env, st, PostG.bind h fun v H1 w1 d S1 e1 st1 rv h => by
    cases rv; exact h.ok (.refl _ _) st1 rfl⟩⟩
/-- and, or as tests -/
structure SW (X : Cx) (W : WX) (e : Expr) (f : DEnv → M Bool) : Prop where
  pw : PW X e (tG X.mg X.K W RpB f)
theorem PW.imp {t t' : TT} (h : PW X e t) (k : ∀ σ H Q, t' σ H Q → t σ H Q) : PW X e t' := ⟨fun wh pins s σ H Q I q => h.run wh pins s σ H Q I (k _ _ _ q)⟩
theorem SW.st {f : DEnv → M Bool} (h : SW X W e f) : ST X W e f := ⟨h.pw.pt⟩
def andT (f g : DEnv → M Bool) : DEnv → M Bool := fun δ S => (f δ S).bind fun k S1 => if k = true then g δ S1 else .ok false S1
def orT (f g : DEnv → M Bool) : DEnv → M Bool := fun δ S => (f δ S).bind fun k S1 => if k = true then .ok true S1 else g δ S1
variable {ft gt : DEnv → M Bool} {rest : List Expr}
theorem sw_and1 (ha : ST X W a ft) : SW X W (.BoolOp .And [a] pos) ft := ⟨pw_and1 ha.pt⟩
theorem sw_or1 (ha : ST X W a ft) : SW X W (.BoolOp .Or [a] pos) ft := ⟨pw_or1 ha.pt⟩
theorem sw_and (ha : ST X W a ft) (hb : SW X W (.BoolOp .And (b :: rest) pos) gt) : SW X W (.BoolOp .And (a :: b :: rest) pos) (andT ft gt) :=
  ⟨PW.imp (pw_and ha.pt hb.pw) fun σ H Q ⟨δ, w, S, env, st, h⟩ => ⟨δ, w, S, env, st, PostG.bind h fun v H1 w1 d S1 e1 st1 rv h => by
    cases rv
    split at h
    · rename_i hk; rw [if_pos hk]; exact ⟨δ, w1, S1, env.mono e1, st1, h⟩
    · rename_i hk; rw [if_neg hk]; exact h.ok (.refl _ _) st1 rfl⟩⟩
theorem sw_or (ha : ST X W a ft) (hb : SW X W (.BoolOp .Or (b :: rest) pos) gt) : SW X W (.BoolOp .Or (a :: b :: rest) pos) (orT ft gt) :=
  ⟨PW.imp (pw_or ha.pt hb.pw) fun σ H Q ⟨δ, w, S, env, st, h⟩ => ⟨δ, w, S, env, st, PostG.bind h fun v H1 w1 d S1 e1 st1 rv h => by
    cases rv
    split at h
    · rename_i hk; rw [if_pos hk]; exact h.ok (.refl _ _) st1 rfl
    · rename_i hk; rw [if_neg hk]; exact ⟨δ, w1, S1, env.mono e1, st1, h⟩⟩⟩
/-- as values -/
def andE (fa fb : DEnv → M D) : DEnv → M D := fun δ S => (fa δ S).bind fun d S1 => (opt (trueD S1 d) S1).bind fun k S1 => if k = true then fb δ S1 else .ok d S1
def orE (fa fb : DEnv → M D) : DEnv → M D := fun δ S => (fa δ S).bind fun d S1 => (opt (trueD S1 d) S1).bind fun k S1 => if k = true then .ok d S1 else fb δ S1
def notE (fa : DEnv → M D) : DEnv → M D := fun δ S => (fa δ S).bind fun d S1 => (opt (trueD S1 d) S1).bind fun k S1 => .ok (.dat (.bool (!k))) S1
theorem se_one {op} (ha : SE X W a fa) : SE X W (.BoolOp op [a] pos) fa := ⟨pe_one ha.pe⟩
theorem se_and (ha : SE X W a fa) (hb : SE X W (.BoolOp .And (b :: rest) pos) fb) : SE X W (.BoolOp .And (a :: b :: rest) pos) (andE fa fb) :=
  ⟨PE.imp (pe_andT ha.pe hb.pe) fun σ H Q ⟨δ, w, S, env, st, h⟩ => ⟨δ, w, S, env, st, PostG.bind h fun v H1 w1 d S1 e1 st1 rv h => by
    obtain ⟨k, hk, h⟩ := h.opt
    refine ⟨k, trueD_of st1 rv hk, ?_⟩
    split at h
    · rename_i hk; rw [if_pos hk]; exact ⟨δ, w1, S1, env.mono e1, st1, h⟩
    · rename_i hk; rw [if_neg hk]; exact h.ok (.refl _ _) st1 rv⟩⟩
theorem se_or (ha : SE X W a fa) (hb : SE X W (.BoolOp .Or (b :: rest) pos) fb) : SE X W (.BoolOp .Or (a :: b :: rest) pos) (orE fa fb) :=
  ⟨PE.imp (pe_orT ha.pe hb.pe) fun σ H Q ⟨δ, w, S, env, st, h⟩ => ⟨δ, w, S, env, st, PostG.bind h fun v H1 w1 d S1 e1 st1 rv h => by
    obtain ⟨k, hk, h⟩ := h.opt
    refine ⟨k, trueD_of st1 rv hk, ?_⟩
    split at h
    · rename_i hk; rw [if_pos hk]; exact h.ok (.refl _ _) st1 rv
    · rename_i hk; rw [if_neg hk]; exact ⟨δ, w1, S1, env.mono e1, st1, h⟩⟩⟩
theorem se_not (ha : SE X W a fa) : SE X W (.UnaryOp .Not a pos) (notE fa) :=
  ⟨PE.imp (pe_notT ha.pe) fun σ H Q ⟨δ, w, S, env, st, h⟩ => ⟨δ, w, S, env, st, PostG.bind h fun v H1 w1 d S1 e1 st1 rv h => by
    obtain ⟨k, hk, h⟩ := h.opt
    exact ⟨k, trueD_of st1 rv hk, h.ok (.refl _ _) st1 (Fz.bl _)⟩⟩⟩
def iteE (ft : DEnv → M Bool) (fa fb : DEnv → M D) : DEnv → M D := fun δ S => (ft δ S).bind fun k S1 => if k = true then fa δ S1 else fb δ S1
theorem se_ite (hc : ST X W c ft) (ha : SE X W a fa) (hb : SE X W b fb) : SE X W (.IfExp c a b pos) (iteE ft fa fb) :=
  ⟨PE.imp (pe_ifExp hc.pt ha.pe hb.pe) fun σ H Q ⟨δ, w, S, env, st, h⟩ => ⟨δ, w, S, env, st, PostG.bind h fun v H1 w1 d S1 e1 st1 rv h => by
    cases rv
    split at h
    · rename_i hk; rw [if_pos hk]; exact ⟨δ, w1, S1, env.mono e1, st1, h⟩
    · rename_i hk; rw [if_neg hk]; exact ⟨δ, w1, S1, env.mono e1, st1, h⟩⟩⟩
/-- a comparison as a test -/
def boolT (fa : DEnv → M D) : DEnv → M Bool := fun δ S => (fa δ S).bind fun d S1 => match d with
  | .dat (.bool k) => .ok k S1
  | _ => .bad
theorem tTest_of {t : TE} {σ : L2.St} {H : Hp} {Q : Bool → Hp → Prop} (k : ∀ σ H Q, tG X.mg X.K W (RpD X.K) fa σ H Q → t σ H Q) (h : tG X.mg X.K W RpB (boolT fa) σ H Q) : tTest t σ H Q := by
  obtain ⟨δ, w, S, env, st, h⟩ := h
  refine k σ H _ ⟨δ, w, S, env, st, PostG.bind h fun v H1 w1 d S1 e1 st1 rv h => ?_⟩
  split at h
  · cases rv
    exact ⟨_, rfl, h.ok (.refl _ _) st1 rfl⟩
  · exact h.elim
theorem st_cmp {g : PD → PD → Option PD} {op : CmpOp} (ho : G2 X (compareOp op) g) (ha : SE X W a fa) (hb : SE X W b fb) (hm : behindInMarks op b = false) : ST X W (.Compare a [op] [b] pos) (boolT (op2 g fa fb)) :=
  ⟨PT.imp (pt_cmpR ho ha.pe hb.pe hm) fun σ H Q h => tTest_of (fun _ _ _ h => tOp_of h) h⟩
/-- a op1 b op2 c -/
def chainE (g g' : PD → PD → Option PD) (fa fb fc : DEnv → M D) : DEnv → M D := fun δ S => (fa δ S).bind fun a S1 => (fb δ S1).bind fun b S2 => (opt (derefD S2 a) S2).bind fun p S2 => (opt (derefD S2 b) S2).bind fun q S2 => (opt (g p q) S2).bind fun r S2 => match r with
  | .bool true => (fc δ S2).bind fun c S3 => (opt (derefD S3 b) S3).bind fun q S3 => (opt (derefD S3 c) S3).bind fun t S3 => (opt (g' q t) S3).bind fun r S3 => .ok (.dat r) S3
  | .bool false => .ok (.dat (.bool false)) S2
  | _ => .bad
theorem tChain_of {g g' : PD → PD → Option PD} {σ : L2.St} {H : Hp} {Q : VK} (h : tG X.mg X.K W (RpD X.K) (chainE g g' fa fb fc) σ H Q) :
    tChain (rG X.K g) (rG X.K g') (tG X.mg X.K W (RpD X.K) fa) (tG X.mg X.K W (RpD X.K) fb) (tG X.mg X.K W (RpD X.K) fc) σ H Q := by
  obtain ⟨δ, w, S, env, st, h⟩ := h
  refine ⟨δ, w, S, env, st, PostG.bind h fun x H1 w1 a S1 e1 st1 rx h => ?_⟩
  refine ⟨δ, w1, S1, env.mono e1, st1, PostG.bind h fun y H2 w2 b S2 e2 st2 ry h => ?_⟩
  obtain ⟨p, hp, h⟩ := h.opt
  obtain ⟨q, hq, h⟩ := h.opt
  obtain ⟨r, hr, h⟩ := h.opt
  refine ⟨w2, p, q, r, fun a ha => st2.fresh ha, Now.of st2 (rx.mono e2) hp, Now.of st2 ry hq, hr, fun v H' sm fz => ?_⟩
  split at h
  · cases fz
    refine ⟨true, rfl, ?_⟩
    rw [if_pos rfl]
    have e3 : Ext H2 w2 H' w2 := .same sm
    refine ⟨δ, w2, S2, ((env.mono e1).mono e2).mono e3, st2.same sm, PostG.bind (h.ext e3) fun z H4 w4 c S4 e4 st4 rz h => ?_⟩
    obtain ⟨q', hq', h⟩ := h.opt
    obtain ⟨t, ht, h⟩ := h.opt
    obtain ⟨r', hr', h⟩ := h.opt
    exact ⟨w4, q', t, r', fun a ha => st4.fresh ha, Now.of st4 ((ry.mono e3).mono e4) hq', Now.of st4 rz ht, hr', fun v H5 sm5 fz5 => h.ok (.same sm5) (st4.same sm5) fz5⟩
  · cases fz
    refine ⟨false, rfl, ?_⟩
    rw [if_neg (by decide)]
    exact h.ok (.same sm) (st2.same sm) (.bl _)
  · exact h.elim
theorem se_chain {g g' : PD → PD → Option PD} {op op' : CmpOp} (ho : G2 X (compareOp op) g) (ho' : G2 X (compareOp op') g') (ha : SE X W a fa) (hb : SE X W b fb) (hc : SE X W c fc) (hm : lastMarks [op, op'] [b, c] = false) :
    SE X W (.Compare a [op, op'] [b, c] pos) (chainE g g' fa fb fc) := ⟨PE.imp (pe_chain ho ho' ha.pe hb.pe hc.pe hm) fun σ H Q h => tChain_of h⟩
theorem st_chain {g g' : PD → PD → Option PD} {op op' : CmpOp} (ho : G2 X (compareOp op) g) (ho' : G2 X (compareOp op') g') (ha : SE X W a fa) (hb : SE X W b fb) (hc : SE X W c fc) (hm : lastMarks [op, op'] [b, c] = false) :
    ST X W (.Compare a [op, op'] [b, c] pos) (boolT (chainE g g' fa fb fc)) := ⟨PT.imp (pt_chain ho ho' ha.pe hb.pe hc.pe hm) fun σ H Q h => tTest_of (fun _ _ _ h => tChain_of h) h⟩

/-! ### -a, subscripts, slices -/
def negE (fa : DEnv → M D) : DEnv → M D := fun δ S => (fa δ S).bind fun d S1 => match d with
  | .dat (.int i) => .ok (.dat (.int (-i))) S1
  | _ => .bad
theorem se_neg (ha : SE X W a fa) : SE X W (.UnaryOp .USub a pos) (negE fa) :=
  ⟨PE.imp (pe_un un_neg ha.pe) fun σ H Q ⟨δ, w, S, env, st, h⟩ => ⟨δ, w, S, env, st, PostG.bind h fun v H1 w1 d S1 e1 st1 rv h => by
    split at h
    · cases rv
      exact ⟨_, rfl, h.ok (.refl _ _) st1 (Fz.int _)⟩
    · exact h.elim⟩⟩
def ixP : PD → PD → Option PD
  | .list ds, .int i => atI ds i
  | .tuple ds, .int i => atI ds i
  | .str z, .int i => if z.length ≤ sizeLine then (atI z.cps.toList i).map fun c => .str ⟨#[c]⟩ else none
  | _, _ => none
theorem atI_fz {K : PySem.W.Frag} {H : Hp} {w : Wd} {vs : List V} {ds : List PD} {i : Int} {d : PD} (f : FzA K H w vs ds) (h : atI ds i = some d) : ∃ v, atI vs i = some v ∧ Fz K H w v d := by
  unfold atI at h ⊢
  rw [f.length]
  cases e : ixN ds.length i with
  | none => rw [e] at h; cases h
  | some j =>
    rw [e] at h
    exact f.get' h
theorem ix_dat : IxR X (rG X.K ixP) := by
  intro value slice pins s σ H x y v u Q I rx ry q hs
  obtain ⟨w, p, q, r, fr, h1, h2, h3, k⟩ := q
  unfold ixP at h3
  split at h3
  · obtain ⟨a, xs, rfl, l, f⟩ := h1.list
    cases h2.int
    obtain ⟨v', e, fz⟩ := atI_fz f h3
    exact ix_list value slice pins s σ H _ _ v u Q I rx ry ⟨_, _, _, _, rfl, rfl, l.seq, e, k _ _ (Same.refl _) fz⟩ hs
  · obtain ⟨a, xs, rfl, l, f⟩ := h1.tup
    cases h2.int
    obtain ⟨v', e, fz⟩ := atI_fz f h3
    exact ix_tup value slice pins s σ H _ _ v u Q I rx ry ⟨_, _, _, _, rfl, rfl, l.seq, e, k _ _ (Same.refl _) fz⟩ hs
  · split at h3
    · rename_i z i hz
      cases h1.str
      cases h2.int
      cases e : atI z.cps.toList i with
      | none => rw [e] at h3; cases h3
      | some c =>
        rw [e] at h3; cases h3
        exact ix_str value slice pins s σ H _ _ v u Q I rx ry ⟨_, _, _, rfl, rfl, hz, e, k _ _ (Same.refl _) (.str _)⟩ hs
    · cases h3
  · cases h3
theorem se_ix (ha : SE X W a fa) (hb : SE X W b fb) (hs : PlainIx b) : SE X W (.Subscript a b pos) (op2 ixP fa fb) :=
  ⟨PE.imp (pe_ix ix_dat ha.pe hb.pe hs) fun σ H Q h => tOp_of h⟩
/-- the items from lo to hi -/
def cutD {α : Type} (xs : List α) (lo hi : Option Int) : List α := (xs.drop (HT.sIx xs.length 0 lo)).take (HT.sIx xs.length xs.length hi - HT.sIx xs.length 0 lo)
def cutP : PD → Option Int → Option Int → Option PD
  | .list ds, lo, hi => some (.list (cutD ds lo hi))
  | .tuple ds, lo, hi => some (.tuple (cutD ds lo hi))
  | .str z, lo, hi => if z.length ≤ sizeLine then some (.str (cutS z lo hi)) else none
  | _, _, _ => none
def rSlG (K : PySem.W.Frag) : V → Option Int → Option Int → Hp → VK → Prop := fun x lo hi H Q => ∃ w p r, (∀ a, H a = none → w.out a) ∧ Now K H w x p ∧ cutP p lo hi = some r ∧ ∀ v H', Same H H' → Fz K H' w v r → Q v H'
theorem cut_fz {K : PySem.W.Frag} {H : Hp} {w : Wd} {vs : List V} {ds : List PD} (f : FzA K H w vs ds) (lo hi : Option Int) : FzA K H w (cutV vs lo hi) (cutD ds lo hi) := by
  unfold cutV cutD
  rw [f.length]
  exact FzA.take _ (FzA.drop _ f)
theorem sl_dat : SlR X (rSlG X.K) := by
  intro pins s σ H x v vl vu lo hi sl Q I rx hs pl pu q
  obtain ⟨w, p, r, fr, h1, h3, k⟩ := q
  unfold cutP at h3
  split at h3
  · cases h3
    obtain ⟨a, xs, rfl, l, f⟩ := h1.list
    exact sl_list pins s σ H _ v vl vu _ _ sl Q I rx hs pl pu ⟨_, _, rfl, l.seq, fun p hp => k _ _ (same_new hp) (fz_new fr hp (cut_fz f _ _))⟩
  · cases h3
    obtain ⟨a, xs, rfl, l, f⟩ := h1.tup
    refine sl_tupA pins s σ H _ v vl vu _ _ sl Q I rx hs pl pu ⟨_, _, rfl, l.seq, fun e => ?_, fun _ p hp => k _ _ (same_new hp) (fz_newT fr hp (cut_fz f _ _))⟩
    have ec := cut_fz f lo hi
    have e2 : ∀ {α : Type} (ys : List α), ys.length = xs.length → cutD ys lo hi = ys := fun ys hl => by
      unfold cutD
      rw [hl, e.1, e.2, List.drop_zero, Nat.sub_zero, ← hl, List.take_length]
    rw [e2 _ f.length.symm] at k
    exact k _ _ (Same.refl _) (.tup l f)
  · split at h3 <;> cases h3
    rename_i hz
    cases h1.str
    exact sl_str pins s σ H _ v vl vu _ _ sl Q I rx hs pl pu ⟨_, rfl, hz, k _ _ (Same.refl _) (.str _)⟩
  · cases h3
/-- a part of a slice -/
structure SO (X : Cx) (W : WX) (e : Option Expr) (f : DEnv → M (Option Int)) : Prop where
  po : PO X e (tG X.mg X.K W (fun _ _ a b => a = b) f)
theorem PO.imp {o : Option Expr} {t t' : TO} (h : PO X o t) (k : ∀ σ H Q, t' σ H Q → t σ H Q) : PO X o t' := ⟨fun pins s σ H Q I q => h.run pins s σ H Q I (k _ _ _ q)⟩
def noO : DEnv → M (Option Int) := fun _ S => .ok none S
def someO (fa : DEnv → M D) : DEnv → M (Option Int) := fun δ S => (fa δ S).bind fun d S1 => match d with
  | .dat (.int i) => .ok (some i) S1
  | _ => .bad
theorem so_none : SO X W none noO := ⟨PO.imp po_none fun σ H Q ⟨δ, w, S, env, st, h⟩ => h.ok (.refl _ _) st rfl⟩
theorem so_some (ha : SE X W a fa) : SO X W (some a) (someO fa) :=
  ⟨PO.imp (po_some ha.pe) fun σ H Q ⟨δ, w, S, env, st, h⟩ => ⟨δ, w, S, env, st, PostG.bind h fun v H1 w1 d S1 e1 st1 rv h => by
    split at h
    · cases rv
      exact ⟨_, rfl, h.ok (.refl _ _) st1 rfl⟩
    · exact h.elim⟩⟩
def slcE (fa : DEnv → M D) (fl fh : DEnv → M (Option Int)) : DEnv → M D := fun δ S => (fa δ S).bind fun d S1 => (fl δ S1).bind fun lo S2 => (fh δ S2).bind fun hi S3 => (opt (derefD S3 d) S3).bind fun p S3 => (opt (cutP p lo hi) S3).bind fun r S3 => .ok (.dat r) S3
theorem se_slc {lo hi : Option Expr} {fl fh : DEnv → M (Option Int)} {p2 : Pos} (ha : SE X W a fa) (hl : SO X W lo fl) (hh : SO X W hi fh) : SE X W (.Subscript a (.Slice lo hi none p2) pos) (slcE fa fl fh) :=
  ⟨PE.imp (pe_slice sl_dat ha.pe hl.po hh.po) fun σ H Q ⟨δ, w, S, env, st, h⟩ => ⟨δ, w, S, env, st, PostG.bind h fun v H1 w1 d S1 e1 st1 rv h =>
    ⟨δ, w1, S1, env.mono e1, st1, PostG.bind h fun l H2 w2 l' S2 e2 st2 rl h => by
      cases rl
      exact ⟨δ, w2, S2, (env.mono e1).mono e2, st2, PostG.bind h fun u H3 w3 u' S3 e3 st3 ru h => by
        cases ru
        obtain ⟨p, hp, h⟩ := h.opt
        obtain ⟨r, hr, h⟩ := h.opt
        exact ⟨w3, p, r, fun a ha => st3.fresh ha, Now.of st3 ((rv.mono e2).mono e3) hp, hr, fun v H' sm fz => h.ok (.same sm) (st3.same sm) fz⟩⟩⟩⟩⟩
end
end DL

set_option Elab.async false
set_option linter.all false
set_option maxRecDepth 100000
set_option maxHeartbeats 4000000
/-! DLg: what a def promises where no repr is under way; its body; calls of it; repr. -/
namespace DL
open PySem PySem.Spec PyProof.Rows L2

/-- as FnOk, run where no guarded code (a repr) is under way -/
structure FnG (P : Program) (w : World) (K : PySem.W.Frag) (mg : Str → Option Value) (base : Heap) (k : Nat) (f : Addr) (fd : FuncData) (ps : List Str) (sp : Sp) : Prop where
  len : ∀ vs H Q E, sp vs H Q E → vs.length = ps.length
  run : ∀ (A : Around) (outer : List Env) (s : Shared) (H : Hp) (args : Args) (us : List Value) (vs : List V) (Q : VK) (E : XK), Room k A → A.guards = some [] → Env0 P w K mg base A outer s H → BindsTo s fd args (ps.zip us) →
    Vals vs us → sp vs H Q E → codeAny (model P w) A (.call (.ref f) args) (CR (L2.CX P w) outer P w H s Q E) s
theorem guards_deeper {A : Around} {env : Env} : (A.deeper env).guards = A.guards := rfl
section
variable {P : Program} {w : World} {K : PySem.W.Frag} {mg : Str → Option Value} {base : Heap} {x qual : Str} {params : Arguments} {body : List Stmt} {scope : Scope} {dvs : List V} {kws : List (Str × V)} {f : Addr} {fd : FuncData}
theorem FnG.of {N ps : List Str} {k : Nat} {sp : Sp} (F : FunD K x qual params body scope dvs kws f fd) (Sc : FnScope N ps scope) (hlen : ∀ vs H Q E, sp vs H Q E → vs.length = ps.length)
    (hb : ∀ (cdv : Value) (A : Around) (outer : List Env) (s : Shared) (H : Hp) (vs : List V) (Q : VK) (E : XK), Room k (A.deeper (envOfC qual scope s.heap.objs.size f cdv)) → A.guards = some [] → sp vs H Q E →
      ∃ t, PSs (cxOf (L2.CX P w) P w K mg base N qual scope f cdv A outer s H E) body t ∧ t { nx := fun _ H' => Q .non H', rt := Q } (start N vs) H) :
    FnG P w K mg base (k + 1) f fd ps sp := by
  obtain ⟨oc, od, dV, kV, doc, pm, an, cdv, ct, osl, rfl, hlk, hcode, _, _⟩ := F.ex
  refine ⟨hlen, fun A outer s H args us vs Q E room hg e0 bind rel promise => ?_⟩
  have eqLen := hlen _ _ _ _ promise
  have inK : K.In s.heap := e0.mod.kin.keeps fun b o e => (e0.bs b o e).1
  have noLim : s.heap.NoLimit := e0.mod.nolimit.keeps fun b o e => (e0.bs b o e).1
  have kinds : ∀ y ∈ ps.zip us, scope.names.lookup y.1 = some .local ∨ (scope.names.lookup y.1 = some .cell ∧ ((cellsFrom (s.heap.objs.size + 1) scope.names []).lookup y.1).isSome = true) := by
    intro y hy
    obtain ⟨n, v⟩ := y
    exact (Sc.par n (List.of_mem_zip hy).1).imp id fun q => ⟨q, PySem.W.cellsFrom_some _ _ _ (.inl q)⟩
  refine codeAny_call_function room.depth (inK _ _ hlk) rfl Sc.co Sc.gen rfl (PySem.W.codeRec_of inK hcode) (bind _ _ _ _ (wpAny_newFunctionEnv_cells Sc.kind kinds fun env he s1 made => ?_))
  subst he
  obtain ⟨t, walk, start_⟩ := hb cdv A outer s H vs Q E (room.deeper _) hg promise
  refine ⟨noLim.keeps made.toInCall.keep, codeAny_func (wpAny_mono (walk.run [] s1 (start N vs) H _ (inv_start Sc room.hd e0 eqLen rel made) start_) (fun fl s' done => ?_) fun e s' left => left)⟩
  match fl, done with
  | .ret u, ⟨v, σ', H', J, rv, q⟩ => exact ⟨v, H', J.os, J.bare, J.base, J.hok, rv, q⟩
  | .next, ⟨σ', H', J, q⟩ => exact ⟨V.non, H', J.os, J.bare, J.base, J.hok, rfl, q⟩
  | .brk, ⟨_, _, _, q⟩ => exact False.elim q
  | .cont, ⟨_, _, _, q⟩ => exact False.elim q
end

/-! ### calls -/
def pick {α : Type} (prm : List Nat) (l : List α) : List α := prm.filterMap fun i => l[i]?
theorem pick_range {α : Type} (l : List α) : ∀ n : Nat, pick (List.range n) l = l.take n
  | 0 => by simp [pick]
  | n + 1 => by
    have ih := pick_range l n
    unfold pick at ih ⊢
    rw [List.range_succ, List.filterMap_append, ih, List.take_add_one]
    cases e : l[n]? <;> simp [e]
theorem pick_all {α : Type} (l : List α) : pick (List.range l.length) l = l := by rw [pick_range, List.take_length]
theorem pick_vals {vs : List V} {us : List Value} (r : Vals vs us) : ∀ prm : List Nat, Vals (pick prm vs) (pick prm us)
  | [] => .nil
  | i :: prm => by
    unfold pick
    rw [List.filterMap_cons, List.filterMap_cons]
    cases e : vs[i]? with
    | none => rw [r.none_of e]; exact pick_vals r prm
    | some v =>
      obtain ⟨u, e2, rv⟩ := r.get e
      rw [e2]
      exact .cons rv (pick_vals r prm)
theorem RpAll.get {K : PySem.W.Frag} {H : Hp} {w : Wd} : ∀ {vs : List V} {ds : List D} {i : Nat}, RpAll K H w vs ds → (vs[i]? = none ∧ ds[i]? = none) ∨ ∃ v d, vs[i]? = some v ∧ ds[i]? = some d ∧ RepD K H w v d
  | _, _, _, .nil => .inl ⟨rfl, rfl⟩
  | _, _, 0, .cons a _ => .inr ⟨_, _, rfl, rfl, a⟩
  | _, _, i + 1, .cons _ b => by simpa using RpAll.get (i := i) b
theorem RpAll.append {K : PySem.W.Frag} {H : Hp} {w : Wd} {ws : List V} {es : List D} : ∀ {vs : List V} {ds : List D}, RpAll K H w vs ds → RpAll K H w ws es → RpAll K H w (vs ++ ws) (ds ++ es)
  | _, _, .nil, h => h
  | _, _, .cons a b, h => .cons a (RpAll.append b h)
theorem pick_rep {K : PySem.W.Frag} {H : Hp} {w : Wd} {vs : List V} {ds : List D} (r : RpAll K H w vs ds) : ∀ prm : List Nat, RpAll K H w (pick prm vs) (pick prm ds)
  | [] => .nil
  | i :: prm => by
    unfold pick
    rw [List.filterMap_cons, List.filterMap_cons]
    rcases r.get (i := i) with ⟨e1, e2⟩ | ⟨v, d, e1, e2, rv⟩
    · rw [e1, e2]; exact pick_rep r prm
    · rw [e1, e2]; exact .cons rv (pick_rep r prm)
/-- a call with n values and keywords ks binds them, in the sequence prm -/
def Bd (K : PySem.W.Frag) (fd : FuncData) (ps : List Str) (n : Nat) (ks : List Str) (prm : List Nat) : Prop :=
  ∀ (s : Shared) (us ws : List Value), K.In s.heap → us.length = n → ws.length = ks.length → BindsTo s fd ⟨us, ks.zip ws⟩ (ps.zip (pick prm (us ++ ws)))
/-- what a def promises: it does F -/
def spD (G : Str → Option Value) (K : PySem.W.Frag) (np : Nat) (F : List D → M D) : Sp := fun vs H Q E => ∃ w S ds, Stt K H w S ∧ RpAll K H w vs ds ∧ ds.length = np ∧ PostG G K (fun c d _ H => E c d H) [] (RpD K) H w (F ds S) Q
theorem spD_len {G : Str → Option Value} {K : PySem.W.Frag} {ps : List Str} {F : List D → M D} : ∀ vs H Q E, spD G K ps.length F vs H Q E → vs.length = ps.length := fun vs H Q E ⟨w, S, ds, _, r, h, _⟩ => r.length.trans h
section
variable {X : Cx} {W : WX} {k : Nat} {f : Addr} {fd : FuncData} {ps : List Str} {F : List D → M D} {x : Str} {p pos : Pos} {e : Expr} {es : List Expr} {kws : List Keyword} {fa fk : DEnv → M (List D)} {ks : List Str} {prm : List Nat}
theorem run_g {pins : List (Addr × Obj)} {σ : L2.St} {H : Hp} {s : Shared} {Q : VK} {us : List Value} {vs : List V} {args : Args} {sp : Sp} (FG : FnG X.prog X.w X.K X.mg X.base k f fd ps sp) (hr : Room k X.A) (hg : X.A.guards = some [])
    (tk : Takes X W) (I : Inv X pins σ H s) (bd : BindsTo s fd args (ps.zip us)) (r : Vals vs us) (h : sp vs H Q (WE W σ)) : wpAny (model X.prog X.w) X.A (call (.ref f) args.pos args.kw) (EP X pins σ Q) X.xe s := by
  refine wpAny_call (codeAny_mono (FG.run X.A X.stack s H args us vs Q (WE W σ) hr hg I.env0 bd r h) fun res s' done => ?_)
  match res, done with
  | .error e, d => exact passAt tk σ pins H s e s' I d
  | .ok (.ret u), d => exact I.after d
  | .ok .next, d => exact False.elim d
  | .ok .brk, d => exact False.elim d
  | .ok .cont, d => exact False.elim d
/-- the def's promise, as the caller asks it -/
theorem sp_of {σ : L2.St} {H : Hp} {Q : VK} {w : Wd} {S : Store} {vs : List V} {ds : List D} {np : Nat} (st : Stt X.K H w S) (r : RpAll X.K H w vs ds) (hl : ds.length = np) (h : PostG X.mg X.K W σ (RpD X.K) H w (F ds S) Q) :
    spD X.mg X.K np F vs H Q (WE W σ) := ⟨w, S, ds, st, r, hl, by
  cases e : F ds S with
  | ok d S' => rw [e] at h; exact h
  | exc x S' => rw [e] at h; exact h
  | bad => rw [e] at h; exact h⟩
def callE (np : Nat) (F : List D → M D) (fa : DEnv → M (List D)) : DEnv → M D := fun δ S => (fa δ S).bind fun ds S1 => if ds.length = np then F ds S1 else .bad
def callK (np : Nat) (F : List D → M D) (prm : List Nat) (fa fk : DEnv → M (List D)) : DEnv → M D := fun δ S => (fa δ S).bind fun ds S1 => (fk δ S1).bind fun es S2 => if (pick prm (ds ++ es)).length = np then F (pick prm (ds ++ es)) S2 else .bad
/-- what a caller knows of a def -/
structure Def (X : Cx) (k : Nat) (x : Str) (f : Addr) (fd : FuncData) (ps : List Str) (F : List D → M D) : Prop where
  ok : FnG X.prog X.w X.K X.mg X.base k f fd ps (spD X.mg X.K ps.length F)
  mg : X.mg x = some (.ref f)
  kp : PySem.W.keepIn X.K (.ref f) = true
theorem se_call (Df : Def X k x f fd ps F) (hr : Room k X.A) (hgd : X.A.guards = some []) (tk : Takes X W) (hb : Bd X.K fd ps ps.length [] (List.range ps.length)) (hg : Gl X x) (ha : SA X W (e :: es) fa)
    (hdb : (x == ("__debug__" : Str)) = false) (he : starEach (e :: es) X.env = (false, eval e X.env) :: starEach es X.env) (hpl : (backTo pos (starEach es X.env)).any (·.1) = false) :
    SE X W (.Call (.Name x p) (e :: es) [] pos) (callE ps.length F fa) := by
  refine ⟨⟨fun pins s σ H Q I h => ?_⟩⟩
  obtain ⟨δ, w, S, env, st, h⟩ := h
  refine wpAny_Call_Name_kw (ld_glob I hg Df.mg ?_ hdb)
  refine PySem.W.callWith_K (h₀ := X.base) I.ok.mod.kin Df.kp (thn (ha.pa.run pos pins s σ H _ I ⟨δ, w, S, env, st, PostG.bind (Q' := fun vs H1 => spD X.mg X.K ps.length F vs H1 Q (WE W σ)) h fun vs H1 w1 ds S1 e1 st1 rs h => ?_⟩) fun us s1 ⟨vs, H1, I1, r, q⟩ => ⟨I1.kIn, ?_⟩) he hpl
  · split at h
    · rename_i hl; exact sp_of st1 rs hl h
    · exact h.elim
  · have hl : us.length = ps.length := r.length.symm.trans (spD_len _ _ _ _ q)
    have b := hb s1 us [] I1.kIn hl rfl
    rw [List.append_nil] at b
    have e2 : pick (List.range ps.length) us = us := by rw [← hl]; exact pick_all us
    rw [e2] at b
    exact run_g (args := ⟨us, []⟩) Df.ok hr hgd tk I1 b r q
theorem se_call0 (Df : Def X k x f fd ps F) (hr : Room k X.A) (hgd : X.A.guards = some []) (tk : Takes X W) (hb : Bd X.K fd ps 0 [] []) (hg : Gl X x) (hdb : (x == ("__debug__" : Str)) = false) :
    SE X W (.Call (.Name x p) [] [] pos) (callE ps.length F nilA) := by
  refine ⟨⟨fun pins s σ H Q I h => ?_⟩⟩
  obtain ⟨δ, w, S, env, st, h⟩ := h
  refine wpAny_Call_Name_kw (ld_glob I hg Df.mg ?_ hdb)
  have h : PostG X.mg X.K W σ (RpD X.K) H w (if ([] : List D).length = ps.length then F [] S else .bad) Q := h
  split at h
  · rename_i hl
    have hl0 : ps = [] := List.eq_nil_of_length_eq_zero hl.symm
    have b := hb s [] [] I.kIn rfl rfl
    exact PySem.W.callWith_K0 I.kIn Df.kp (run_g (us := []) (args := ⟨[], []⟩) Df.ok hr hgd tk I (by rw [hl0] at b ⊢; exact b) .nil (sp_of (vs := []) st .nil hl h))
  · exact h.elim
structure SK (X : Cx) (W : WX) (kws : List Keyword) (f : DEnv → M (List D)) : Prop where
  pk : PK X kws (tG X.mg X.K W (RpA X.K) f)
theorem PK.imp {t t' : TA} (h : PK X kws t) (k : ∀ σ H Q, t' σ H Q → t σ H Q) : PK X kws t' := ⟨fun p pins s σ H Q I q => h.run p pins s σ H Q I (k _ _ _ q)⟩
theorem sk_nil : SK X W [] nilA := ⟨PK.imp pk_nil fun σ H Q ⟨δ, w, S, env, st, h⟩ => h.ok (.refl _ _) st .nil⟩
theorem sk_cons {nm : Option Str} {kpos : Pos} {fe : DEnv → M D} (ha : SE X W e fe) (hr : SK X W kws fk) : SK X W (⟨nm, e, kpos⟩ :: kws) (consA fe fk) :=
  ⟨PK.imp (pk_cons ha.pe hr.pk) fun σ H Q ⟨δ, w, S, env, st, h⟩ => ⟨δ, w, S, env, st, PostG.bind h fun v H1 w1 d S1 e1 st1 rv h =>
    ⟨δ, w1, S1, env.mono e1, st1, PostG.bind h fun vs H2 w2 ds S2 e2 st2 rs h => h.ok (.refl _ _) st2 (.cons (rv.mono e2) rs)⟩⟩⟩
/-- the keywords' names as they are written -/
def kwNames : List Keyword → List Str
  | [] => []
  | ⟨some n, _, _⟩ :: r => n :: kwNames r
  | ⟨none, _, _⟩ :: r => kwNames r
theorem se_callK (Df : Def X k x f fd ps F) (hr : Room k X.A) (hgd : X.A.guards = some []) (tk : Takes X W) {n : Nat} (hb : Bd X.K fd ps n ks prm) (hg : Gl X x) (ha : SA X W (e :: es) fa) (hk : SK X W kws fk) (hn : (e :: es).length = n)
    (hdb : (x == ("__debug__" : Str)) = false) (he : starEach (e :: es) X.env = (false, eval e X.env) :: starEach es X.env) (hall : (backToKw pos (keywordEach kws X.env)).all (·.1.isSome) = true) (hks : (backToKw pos (keywordEach kws X.env)).filterMap (·.1) = ks)
    (hkl : kws.length = ks.length)
    (hpl : ((backTo pos (starEach (e :: es) X.env)).any (·.1) || (backToKw pos (keywordEach kws X.env)).any (·.1.isNone)) = false)
    (la : ∀ δ S ds S', fa δ S = .ok ds S' → ds.length = (e :: es).length) (lk : ∀ δ S ds S', fk δ S = .ok ds S' → ds.length = kws.length) :
    SE X W (.Call (.Name x p) (e :: es) kws pos) (callK ps.length F prm fa fk) := by
  refine ⟨⟨fun pins s σ H Q I h => ?_⟩⟩
  obtain ⟨δ, w, S, env, st, h⟩ := h
  refine wpAny_Call_Name_kw (ld_glob I hg Df.mg ?_ hdb)
  unfold callK at h
  cases ea : fa δ S with
  | bad => rw [ea] at h; exact h.elim
  | exc xn S1 =>
    rw [ea] at h
    refine PySem.W.callWith_KW (h₀ := X.base) I.ok.mod.kin Df.kp hall (thn (ha.pa.run pos pins s σ H (fun _ _ => False) I ⟨δ, w, S, env, st, by rw [ea]; exact h⟩) fun us s1 ⟨vs, H1, I1, r, q⟩ => q.elim) hpl he
  | ok ds S1 =>
    rw [ea] at h
    have ld := la δ S ds S1 ea
    have h : PostG X.mg X.K W σ (RpD X.K) H w ((fk δ S1).bind fun es S2 => if (pick prm (ds ++ es)).length = ps.length then F (pick prm (ds ++ es)) S2 else .bad) Q := h
    refine PySem.W.callWith_KW (h₀ := X.base) I.ok.mod.kin Df.kp hall (thn (ha.pa.run pos pins s σ H (fun vs H1 => ∃ w1, Ext H w H1 w1 ∧ Stt X.K H1 w1 S1 ∧ RpAll X.K H1 w1 vs ds) I ⟨δ, w, S, env, st, by rw [ea]; exact fun vs H1 w1 e1 st1 rs => ⟨w1, e1, st1, rs⟩⟩) fun us s1 ⟨vs, H1, I1, r, w1, e1, st1, rs⟩ => ?_) hpl he
    refine thn (hk.pk.run pos pins s1 σ H1 (fun zs H2 => zs.length = kws.length ∧ spD X.mg X.K ps.length F (pick prm (vs ++ zs)) H2 Q (WE W σ)) I1 ⟨δ, w1, S1, env.mono e1, st1, ?_⟩) fun ws s2 ⟨zs, H2, I2, rz, lz, q2⟩ => ⟨I2.kIn, ?_⟩
    · have h2 := h.ext e1
      cases ek : fk δ S1 with
      | bad => rw [ek] at h2; exact h2.elim
      | exc xn S2 => rw [ek] at h2; exact h2
      | ok es S2 =>
        rw [ek] at h2
        intro zs H2 w2 e2 st2 rz
        refine ⟨rz.length.trans (lk δ S1 es S2 ek), ?_⟩
        have h3 : PostG X.mg X.K W σ (RpD X.K) H1 w1 (if (pick prm (ds ++ es)).length = ps.length then F (pick prm (ds ++ es)) S2 else .bad) Q := h2
        split at h3
        · rename_i hl; exact sp_of st2 (pick_rep (RpAll.append (rs.mono e2) rz) prm) hl (h3.ext e2)
        · exact h3.elim
    · rw [hks]
      have b := hb s2 us ws I2.kIn (by rw [← r.length, rs.length, ld, hn]) (by rw [← rz.length, lz, hkl])
      exact run_g (args := ⟨us, ks.zip ws⟩) Df.ok hr hgd tk I2 b (pick_vals (r.append rz) prm) q2
end
end DL

set_option Elab.async false
set_option linter.all false
set_option maxRecDepth 100000
set_option maxHeartbeats 4000000
/-! DLh: calls by keywords alone, of builtins; isinstance, repr; methods; cells that change. -/
namespace DL
open PySem PySem.Spec PyProof.Rows L2

section
variable {X : Cx} {W : WX} {k : Nat} {f : Addr} {fd : FuncData} {ps : List Str} {F : List D → M D} {x : Str} {p pos : Pos} {e a b c : Expr} {es : List Expr} {kws : List Keyword} {fa fk fs : DEnv → M (List D)} {fe fb fc : DEnv → M D} {ks : List Str} {prm : List Nat}
theorem se_callK0 (Df : Def X k x f fd ps F) (hr : Room k X.A) (hgd : X.A.guards = some []) (tk : Takes X W) (hb : Bd X.K fd ps 0 ks prm) (hg : Gl X x) (hk : SK X W kws fk)
    (hdb : (x == ("__debug__" : Str)) = false) (hall : (backToKw pos (keywordEach kws X.env)).all (·.1.isSome) = true) (hks : (backToKw pos (keywordEach kws X.env)).filterMap (·.1) = ks)
    (hkl : kws.length = ks.length)
    (hpl : ((backTo pos (starEach [] X.env)).any (·.1) || (backToKw pos (keywordEach kws X.env)).any (·.1.isNone)) = false)
    (lk : ∀ δ S ds S', fk δ S = .ok ds S' → ds.length = kws.length) :
    SE X W (.Call (.Name x p) [] kws pos) (callK ps.length F prm nilA fk) := by
  refine ⟨⟨fun pins s σ H Q I h => ?_⟩⟩
  obtain ⟨δ, w, S, env, st, h⟩ := h
  refine wpAny_Call_Name_kw (ld_glob I hg Df.mg ?_ hdb)
  have h : PostG X.mg X.K W σ (RpD X.K) H w ((fk δ S).bind fun es S2 => if (pick prm es).length = ps.length then F (pick prm es) S2 else .bad) Q := h
  refine PySem.W.callWith_KW0 (h₀ := X.base) I.ok.mod.kin Df.kp hall (thn (hk.pk.run pos pins s σ H (fun zs H2 => zs.length = kws.length ∧ spD X.mg X.K ps.length F (pick prm zs) H2 Q (WE W σ)) I ⟨δ, w, S, env, st, ?_⟩) fun ws s2 ⟨zs, H2, I2, rz, lz, q2⟩ => ⟨I2.kIn, ?_⟩) hpl
  · cases ek : fk δ S with
    | bad => rw [ek] at h; exact h.elim
    | exc xn S2 => rw [ek] at h; exact h
    | ok es S2 =>
      rw [ek] at h
      intro zs H2 w2 e2 st2 rz
      refine ⟨rz.length.trans (lk δ S es S2 ek), ?_⟩
      have h3 : PostG X.mg X.K W σ (RpD X.K) H w (if (pick prm es).length = ps.length then F (pick prm es) S2 else .bad) Q := h
      split at h3
      · rename_i hl; exact sp_of st2 (pick_rep rz prm) hl (h3.ext e2)
      · exact h3.elim
  · rw [hks]
    have b := hb s2 [] ws I2.kIn rfl (by rw [← rz.length, lz, hkl])
    exact run_g (args := ⟨[], ks.zip ws⟩) Df.ok hr hgd tk I2 b (pick_vals rz prm) q2
/-! ### builtins -/
theorem se_bltn {g : List PD → Option PD} {id : String} (hc : GC X (.builtin id) g) (hg : Gl X x) (hm : X.mg x = none) (hv : bootBuiltins x = some (.builtin id)) (ha : SA X W (e :: es) fa) (hn : x ≠ "__name__") (hdb : (x == ("__debug__" : Str)) = false)
    (he : starEach (e :: es) X.env = (false, eval e X.env) :: starEach es X.env) (hpl : (backTo pos (starEach es X.env)).any (·.1) = false) : SE X W (.Call (.Name x p) (e :: es) [] pos) (blt g fa) :=
  ⟨PE.imp (pe_callB hc hg hm hv ha.pa hn hdb he hpl) fun σ H Q h => tCB_of h⟩
theorem se_btyp {g : List PD → Option PD} {T : String} (hc : GC X (.type T) g) (hg : Gl X x) (hm : X.mg x = none) (hv : bootBuiltins x = some (.type T)) (ha : SA X W (e :: es) fa) (hn : x ≠ "__name__") (hdb : (x == ("__debug__" : Str)) = false)
    (he : starEach (e :: es) X.env = (false, eval e X.env) :: starEach es X.env) (hpl : (backTo pos (starEach es X.env)).any (·.1) = false) : SE X W (.Call (.Name x p) (e :: es) [] pos) (blt g fa) :=
  ⟨PE.imp (pe_callTy hc hg hm hv ha.pa hn hdb he hpl) fun σ H Q h => tCB_of h⟩
/-! repr -/
def showOk (p : PD) : Bool := p.showable && (!p.hasDict || !hasLst p) && decide (p.depth ≤ 60) && decide (p.shown.length ≤ sizeLine)
def reprP : List PD → Option PD
  | [p] => if showOk p = true then some (.str p.shown) else none
  | _ => none
theorem c_repr (hgd : X.A.guards = some []) (hu : X.A.units + 64 < cLine) : GC X (.builtin "repr") reprP := .mk fun w ps r h => by
  unfold reprP at h
  split at h
  · rename_i p
    split at h <;> cases h
    rename_i ok
    simp only [showOk, Bool.and_eq_true, decide_eq_true_eq, Bool.or_eq_true, Bool.not_eq_true'] at ok
    obtain ⟨⟨⟨o1, o2⟩, o3⟩, o4⟩ := ok
    intro pins s σ H xs us Q I rv ⟨_, h1, k⟩
    obtain ⟨v, rfl, n⟩ := h1.one
    obtain ⟨u, rfl, ru⟩ := vals1 rv
    have fin : Q (.str p.shown) H := k _ _ (Same.refl _) (.str _)
    have hsm : ∀ as : List Addr, (hasLst p = false → sysModules ∉ as) → p.hasDict = true → sysModules ∉ as := fun as z hd => z (o2.resolve_left (by rw [hd]; simp))
    have endK : ∀ (h' : Heap) (t : Tok) (tk : Nat), (∀ b o, s.heap.get? b = some o → h'.get? b = some o) → EP X pins σ Q (.str p.shown t) { s with heap := h', toks := tk } :=
      fun h' t tk kp => ⟨V.str p.shown, H, I.kept kp, ⟨t, rfl⟩, fin⟩
    have endT : EP X pins σ Q (.str p.shown s.toks) { s with toks := s.toks + 1 } := ⟨V.str p.shown, H, I.tok _, ⟨_, rfl⟩, fin⟩
    obtain ⟨as, rd, ha⟩ := n.reads I ru
    cases p with
    | none => cases rd; simp only [PyData.shown] at endT; exact PySem.P.repr_of_none endT
    | bool b => cases rd; simp only [PyData.shown] at endT; exact PySem.P.repr_of_bool endT
    | int i =>
      cases rd
      simp only [PyData.shown] at endT
      exact PySem.P.repr_of_int (by simpa [PyData.showable] using o1) endT
    | str z =>
      cases rd
      simp only [PyData.shown] at endT
      exact PySem.P.repr_of_str endT (by simpa [PyData.shown] using o4)
    | list ds => cases rd with | list a1 a2 a3 a4 => exact repr_of_reads' (.list a1 a2 a3 a4) o1 (hsm _ ha) hgd (by omega) (fun _ _ z => z) endK o4
    | tuple ds => cases rd with | tuple a1 a2 a3 a4 => exact repr_of_reads' (.tuple a1 a2 a3 a4) o1 (hsm _ ha) hgd (by omega) (fun _ _ z => z) endK o4
    | dict kvs => cases rd with | dict a1 a2 a3 a4 a5 => exact repr_of_reads' (.dict a1 a2 a3 a4 a5) o1 (hsm _ ha) hgd (by omega) (fun _ _ z => z) endK o4
  · cases h
/-! isinstance -/
inductive Ty where
  | int | bool | str | tuple | list | dict
def Ty.name : Ty → String
  | .int => "int"
  | .bool => "bool"
  | .str => "str"
  | .tuple => "tuple"
  | .list => "list"
  | .dict => "dict"
def isiP : PD → Ty → Bool
  | .int _, .int => true
  | .bool _, .int => true
  | .bool _, .bool => true
  | .str _, .str => true
  | .tuple _, .tuple => true
  | .list _, .list => true
  | .dict _, .dict => true
  | _, _ => false
def tyName : PD → String
  | .none => "NoneType"
  | .bool _ => "bool"
  | .int _ => "int"
  | .str _ => "str"
  | .list _ => "list"
  | .tuple _ => "tuple"
  | .dict _ => "dict"
theorem tyX_of {K : PySem.W.Frag} {H : Hp} {w : Wd} {v : V} {q : PD} (h : Now K H w v q) : TyX K H v (.type (tyName q)) := by
  cases q with
  | none => cases h.none; exact .base .non
  | bool b => cases h.bool; exact .base (.bl b)
  | int i => cases h.int; exact .base (.int i)
  | str z => cases h.str; exact .base (.str z)
  | list ds =>
    obtain ⟨a, xs, rfl, l, f⟩ := h.list
    rcases l with (l | ⟨o, l⟩) | ⟨its, n, e, _⟩
    · exact .base (.lst l)
    · exact .base (.frz l)
    · exact .kList e rfl
  | tuple ds =>
    obtain ⟨a, xs, rfl, l, f⟩ := h.tup
    rcases l with ⟨l | ⟨o, l⟩, _⟩ | ⟨o, its, n, l, c, _⟩
    · exact .base (.tup l)
    · exact .fTuple l
    · exact .kTuple l c
  | dict kvs =>
    obtain ⟨a, ks, rfl, _, l⟩ := h.dic
    exact .base (.dK l)
theorem kit_isi (q : PD) (T : Ty) : kitB (tyName q) T.name = some (isiP q T) := by
  cases q <;> cases T <;> (simp only [tyName, Ty.name, isiP]; decide +kernel)
def isiE (Ts : List Ty) (fe : DEnv → M D) : DEnv → M D := fun δ S => (fe δ S).bind fun d S1 => (opt (derefD S1 d) S1).bind fun q S1 => .ok (.dat (.bool (Ts.any (isiP q)))) S1
theorem ty_boot (T : Ty) : bootBuiltins (T.name : Str) = some (.type T.name) := by cases T <;> decide +kernel
/-- a built-in type as a value -/
theorem pe_ty {T : Ty} {tp : Pos} (hg : Gl X (T.name : Str)) (hm : X.mg (T.name : Str) = none) : PE X (.Name (T.name : Str) tp) (tC (.ty T.name)) :=
  pe_bltn hg hm (ty_boot T) rfl (by cases T <;> decide) (by cases T <;> decide)
theorem se_isi {T : Ty} {q1 q2 : Pos} (he : SE X W e fe) (hg : Gl X "isinstance") (hm : X.mg "isinstance" = none) (hgT : Gl X (T.name : Str)) (hmT : X.mg (T.name : Str) = none)
    (hs : starEach [e, .Name (T.name : Str) q2] X.env = (false, eval e X.env) :: starEach [.Name (T.name : Str) q2] X.env) : SE X W (.Call (.Name "isinstance" q1) [e, .Name (T.name : Str) q2] [] pos) (isiE [T] fe) :=
  ⟨PE.imp (pe_callB call_isi hg hm boot_isinstance (pa_cons he.pe (pa_cons (pe_ty hgT hmT) pa_nil) hs) (by decide) (by decide) hs rfl) fun σ H Q ⟨δ, w, S, env, st, h⟩ => ⟨δ, w, S, env, st, PostG.bind h fun v H1 w1 d S1 e1 st1 rv h => by
    obtain ⟨q, hq, h⟩ := h.opt
    refine ⟨v, _, _, _, isiP q T, rfl, .ty T.name, tyX_of (Now.of st1 rv hq), kit_ty (kit_isi q T), ?_⟩
    have e2 : [T].any (isiP q) = isiP q T := by simp
    rw [e2] at h
    exact h.ok (.refl _ _) st1 (Fz.bl _)⟩⟩
theorem se_isi2 {T U : Ty} {q1 q2 q3 q4 : Pos} {kk : Nat} (he : SE X W e fe) (hg : Gl X "isinstance") (hm : X.mg "isinstance" = none) (hgT : Gl X (T.name : Str)) (hmT : X.mg (T.name : Str) = none) (hgU : Gl X (U.name : Str)) (hmU : X.mg (U.name : Str) = none)
    (hs : starEach [e, .Tuple [.Name (T.name : Str) q2, .Name (U.name : Str) q3] kk q4] X.env = (false, eval e X.env) :: starEach [.Tuple [.Name (T.name : Str) q2, .Name (U.name : Str) q3] kk q4] X.env) :
    SE X W (.Call (.Name "isinstance" q1) [e, .Tuple [.Name (T.name : Str) q2, .Name (U.name : Str) q3] kk q4] [] pos) (isiE [T, U] fe) :=
  ⟨PE.imp (pe_callB call_isiT hg hm boot_isinstance (pa_cons he.pe (pa_cons (pe_tup (pa_cons (pe_ty hgT hmT) (pa_cons (pe_ty hgU hmU) pa_nil))) pa_nil) hs) (by decide) (by decide) hs rfl) fun σ H Q ⟨δ, w, S, env, st, h⟩ => ⟨δ, w, S, env, st, PostG.bind h fun v H1 w1 d S1 e1 st1 rv h => by
    obtain ⟨q, hq, h⟩ := h.opt
    refine ⟨by show 2 ≤ sizeLine; decide, fun p hp => ?_⟩
    have kk := tyX_of (Now.of (st1.same (same_new (o := .tup [.ty T.name, .ty U.name]) hp)) (rv.mono (.same (same_new hp))) hq)
    refine ⟨v, p, _, _, [.type T.name, .type U.name], isiP q T || isiP q U, rfl, upd_same, .cons (.ty _) (.cons (.ty _) .nil), kk, ?_, ?_⟩
    · refine kitAny_cons (kit_ty (kit_isi q T)) (fun z => ?_) fun z => by rw [z]; rfl
      rw [z]
      exact kitAny_cons (kit_ty (kit_isi q U)) (fun z => by rw [z]; exact kitAny_nil) fun z => by rw [z]; rfl
    · have e2 : [T, U].any (isiP q) = (isiP q T || isiP q U) := by simp
      rw [e2] at h
      exact h.ok (.same (same_new hp)) (st1.same (same_new hp)) (Fz.bl _)⟩⟩
end
end DL

set_option Elab.async false
set_option linter.all false
set_option maxRecDepth 100000
set_option maxHeartbeats 4000000
/-! DLi: statements by data. -/
namespace DL
open PySem PySem.Spec PyProof.Rows L2

inductive Fl where
  | nx (δ : DEnv)
  | ret (d : D)
  | rtT (ds : List D)
  | brk (δ : DEnv)
  | ct (δ : DEnv)
inductive RS where
  | ok (f : Fl) (S : Store)
  | exc (x : Xn) (δ : DEnv) (S : Store)
  | bad
def R.bindS {α : Type} (r : R α) (δ : DEnv) (k : α → Store → RS) : RS := match r with
  | .ok a S => k a S
  | .exc x S => .exc x δ S
  | .bad => .bad
abbrev MS := DEnv → Store → RS
section
variable (G : Str → Option Value) (K : PySem.W.Frag) (W : WX)
def PostS (H : Hp) (w : Wd) (r : RS) (Dn : Ends) : Prop := match r with
  | .ok (.nx δ') S' => ∀ σ' H' w', Ext H w H' w' → Stt K H' w' S' → EnvR K H' w' σ' δ' → Dn.nx σ' H'
  | .ok (.ret d) S' => ∀ v H' w', Ext H w H' w' → Stt K H' w' S' → RepD K H' w' v d → Dn.rt v H'
  | .ok (.rtT ds) S' => ∀ v H' w', Ext H w H' w' → Stt K H' w' S' → (∃ a vs, v = .ref a ∧ H' a = some (.tup vs) ∧ w'.out a ∧ RpAll K H' w' vs ds) → Dn.rt v H'
  | .ok (.brk δ') S' => ∀ σ' H' w', Ext H w H' w' → Stt K H' w' S' → EnvR K H' w' σ' δ' → Dn.bk σ' H'
  | .ok (.ct δ') S' => ∀ σ' H' w', Ext H w H' w' → Stt K H' w' S' → EnvR K H' w' σ' δ' → Dn.ct σ' H'
  | .exc x δ' S' => ∀ cls dx σ' H' w', Ext H w H' w' → Stt K H' w' S' → EnvR K H' w' σ' δ' → ExcR G K H' w' cls dx x → W cls dx σ' H'
  | .bad => False
def tS (f : MS) : TS := fun Dn σ H => ∃ δ w S, EnvR K H w σ δ ∧ Stt K H w S ∧ PostS G K W H w (f δ S) Dn
end
section
variable {G : Str → Option Value} {K : PySem.W.Frag} {W : WX} {σ : L2.St} {α ν : Type} {Rp : Hp → Wd → ν → α → Prop} {H H1 : Hp} {w w1 : Wd} {Dn : Ends}
theorem PostS.ext {r : RS} (h : PostS G K W H w r Dn) (e : Ext H w H1 w1) : PostS G K W H1 w1 r Dn := by
  cases r with
  | ok f S =>
    cases f with
    | nx δ => exact fun σ' H' w' e' => h σ' H' w' (e.trans e')
    | ret d => exact fun σ' H' w' e' => h σ' H' w' (e.trans e')
    | rtT ds => exact fun σ' H' w' e' => h σ' H' w' (e.trans e')
    | brk δ => exact fun σ' H' w' e' => h σ' H' w' (e.trans e')
    | ct δ => exact fun σ' H' w' e' => h σ' H' w' (e.trans e')
  | exc x δ S => exact fun c d σ' H' w' e' => h c d σ' H' w' (e.trans e')
  | bad => exact h
theorem PostS.bind {r : R α} {δ : DEnv} {f : α → Store → RS} {Q' : ν → Hp → Prop} (h : PostS G K W H w (r.bindS δ f) Dn) (env : EnvR K H w σ δ)
    (k : ∀ v H' w' d S', Ext H w H' w' → Stt K H' w' S' → Rp H' w' v d → PostS G K W H' w' (f d S') Dn → Q' v H') : PostG G K W σ Rp H w r Q' := by
  cases r with
  | ok d S' => exact fun v H' w' e' st rp => k v H' w' d S' e' st rp (PostS.ext (r := f d S') h e')
  | exc x S' => exact fun c dx H' w' e' st ex => h c dx σ H' w' e' st (env.mono e') ex
  | bad => exact h
theorem PostS.opt {o : Option α} {S : Store} {δ : DEnv} {f : α → Store → RS} (h : PostS G K W H w ((opt o S).bindS δ f) Dn) : ∃ a, o = some a ∧ PostS G K W H w (f a S) Dn := by
  cases o with
  | none => exact h.elim
  | some a => exact ⟨a, rfl, h⟩
end
/-- a statement, a block does f -/
structure SS (X : Cx) (W : WX) (st : Stmt) (f : MS) : Prop where
  ps : PS X st (tS X.mg X.K W f)
structure SSs (X : Cx) (W : WX) (st : List Stmt) (f : MS) : Prop where
  ps : PSs X st (tS X.mg X.K W f)
theorem PS.imp {X : Cx} {st : Stmt} {t t' : TS} (h : PS X st t) (k : ∀ Dn σ H, t' Dn σ H → t Dn σ H) : PS X st t' := ⟨fun pins s σ H Dn I q => h.run pins s σ H Dn I (k _ _ _ q)⟩
theorem PSs.imp {X : Cx} {st : List Stmt} {t t' : TS} (h : PSs X st t) (k : ∀ Dn σ H, t' Dn σ H → t Dn σ H) : PSs X st t' := ⟨fun pins s σ H Dn I q => h.run pins s σ H Dn I (k _ _ _ q)⟩
/-- a target of an assignment does g -/
def tT (K : PySem.W.Frag) (g : D → DEnv → M DEnv) : TG := fun v σ H Q => ∃ δ w S d, EnvR K H w σ δ ∧ Stt K H w S ∧ RepD K H w v d ∧ match g d δ S with
  | .ok δ' S' => ∀ σ' H' w', Ext H w H' w' → Stt K H' w' S' → EnvR K H' w' σ' δ' → Q σ' H'
  | _ => False
structure ST1 (X : Cx) (tg : Expr) (g : D → DEnv → M DEnv) : Prop where
  pg : PG X tg (tT X.K g)
theorem PG.imp {X : Cx} {tg : Expr} {t t' : TG} (h : PG X tg t) (k : ∀ v σ H Q, t' v σ H Q → t v σ H Q) : PG X tg t' := ⟨fun pins s σ H v u Q I r q => h.run pins s σ H v u Q I r (k _ _ _ _ q)⟩
section
variable {X : Cx} {W : WX} {st : Stmt} {rest : List Stmt} {f g : MS} {e o i : Expr} {fe fo fi : DEnv → M D} {pos : Pos} {tg : Expr} {gt : D → DEnv → M DEnv}
def nxS : MS := fun δ S => .ok (.nx δ) S
def seqS (f g : MS) : MS := fun δ S => match f δ S with
  | .ok (.nx δ') S' => g δ' S'
  | r => r
theorem ss_nil : SSs X W [] nxS := ⟨PSs.imp pss_nil fun Dn σ H ⟨δ, w, S, env, st, h⟩ => h σ H w (.refl _ _) st env⟩
theorem ss_cons (h1 : SS X W st f) (h2 : SSs X W rest g) : SSs X W (st :: rest) (seqS f g) :=
  ⟨PSs.imp (pss_cons h1.ps h2.ps) fun Dn σ H ⟨δ, w, S, env, st, h⟩ => by
    refine ⟨δ, w, S, env, st, ?_⟩
    unfold seqS at h
    split at h
    · rename_i δ' S' e
      rw [e]
      exact fun σ' H' w' e' st' env' => ⟨δ', w', S', env', st', h.ext e'⟩
    · rename_i r hr
      cases e : f δ S with
      | ok fl S' =>
        cases fl with
        | nx δ' => exact absurd e (hr δ' S')
        | ret d => rw [e] at h; exact h
        | rtT ds => rw [e] at h; exact h
        | brk δ' => rw [e] at h; exact h
        | ct δ' => rw [e] at h; exact h
      | exc x δ' S' => rw [e] at h; exact h
      | bad => rw [e] at h; exact h⟩
theorem ss_pass : SS X W (.Pass pos) nxS := ⟨PS.imp ps_pass fun Dn σ H ⟨δ, w, S, env, st, h⟩ => h σ H w (.refl _ _) st env⟩
theorem ss_doc {x j pos'} : SS X W (.Expr (.Constant (.str x) j pos) pos') nxS := ⟨PS.imp ps_doc fun Dn σ H ⟨δ, w, S, env, st, h⟩ => h σ H w (.refl _ _) st env⟩
def brkS : MS := fun δ S => .ok (.brk δ) S
def ctS : MS := fun δ S => .ok (.ct δ) S
theorem ss_break : SS X W (.Break pos) brkS := ⟨PS.imp ps_break fun Dn σ H ⟨δ, w, S, env, st, h⟩ => h σ H w (.refl _ _) st env⟩
theorem ss_continue : SS X W (.Continue pos) ctS := ⟨PS.imp ps_continue fun Dn σ H ⟨δ, w, S, env, st, h⟩ => h σ H w (.refl _ _) st env⟩
def retS (fe : DEnv → M D) : MS := fun δ S => (fe δ S).bindS δ fun d S1 => .ok (.ret d) S1
theorem ss_ret (he : SE X W e fe) : SS X W (.Return (some e) pos) (retS fe) :=
  ⟨PS.imp (ps_ret he.pe) fun Dn σ H ⟨δ, w, S, env, st, h⟩ => ⟨δ, w, S, env, st, PostS.bind h env fun v H' w' d S' e' st' rv h => h v H' w' (.refl _ _) st' rv⟩⟩
def retN : MS := fun _ S => .ok (.ret (.dat .none)) S
theorem ss_retN : SS X W (.Return none pos) retN := ⟨PS.imp ps_retN fun Dn σ H ⟨δ, w, S, env, st, h⟩ => h .non H w (.refl _ _) st Fz.non⟩
/-- return (a, b, ..), lists that were changed among them -/
def retT (fs : DEnv → M (List D)) : MS := fun δ S => (fs δ S).bindS δ fun ds S1 => if ds.length ≤ sizeLine then .ok (.rtT ds) S1 else .bad
theorem ss_retT {es : List Expr} {fs : DEnv → M (List D)} {k : Nat} {pos2 : Pos} (he : SA X W es fs) (hne : es ≠ []) : SS X W (.Return (some (.Tuple es k pos)) pos2) (retT fs) :=
  ⟨PS.imp (ps_ret (pe_tup he.pa)) fun Dn σ H ⟨δ, w, S, env, st, h⟩ => ⟨δ, w, S, env, st, PostS.bind h env fun vs H1 w1 ds S1 e1 st1 rv h1 => by
    split at h1
    · rename_i hz
      exact ⟨by rw [rv.length]; exact hz, fun p hp => h1 (.ref p) _ w1 (.same (same_new hp)) (st1.same (same_new hp)) ⟨p, vs, rfl, upd_same, st1.fresh hp, rv.mono (.same (same_new hp))⟩⟩
    · exact h1.elim⟩⟩
def dropS (fe : DEnv → M D) : MS := fun δ S => (fe δ S).bindS δ fun _ S1 => .ok (.nx δ) S1
theorem ss_expr (he : SE X W e fe) (hs : swapsWith e none pos.line X.env = pure false) : SS X W (.Expr e pos) (dropS fe) :=
  ⟨PS.imp (ps_expr he.pe hs) fun Dn σ H ⟨δ, w, S, env, st, h⟩ => ⟨δ, w, S, env, st, PostS.bind h env fun v H' w' d S' e' st' rv h => h σ H' w' (.refl _ _) st' (env.mono e')⟩⟩
def ifS (ft : DEnv → M Bool) (f g : MS) : MS := fun δ S => (ft δ S).bindS δ fun k S1 => if k = true then f δ S1 else g δ S1
theorem ss_if {c : Expr} {a b : List Stmt} {ft : DEnv → M Bool} (hc : ST X W c ft) (ha : SSs X W a f) (hb : SSs X W b g) : SS X W (.If c a b pos) (ifS ft f g) :=
  ⟨PS.imp (ps_if hc.pt ha.ps hb.ps) fun Dn σ H ⟨δ, w, S, env, st, h⟩ => ⟨δ, w, S, env, st, PostS.bind h env fun v H' w' d S' e' st' rv h => by
    cases rv
    split at h
    · rename_i hk; rw [if_pos hk]; exact ⟨δ, w', S', env.mono e', st', h⟩
    · rename_i hk; rw [if_neg hk]; exact ⟨δ, w', S', env.mono e', st', h⟩⟩⟩
/-- not walked -/
def neverS : MS := fun _ _ => .bad
theorem ss_never : SS X W st neverS := ⟨PS.imp ps_never fun Dn σ H ⟨δ, w, S, env, st, h⟩ => h⟩
/-! ### targets, assignments -/
def nmT (i : Nat) : D → DEnv → M DEnv := fun d δ S => .ok (δ.set i (some d)) S
theorem st_name {i : Nat} {x : Str} (hN : X.N.Nodup) (hi : X.N[i]? = some x) (hx : Loc X.env.scope x) (hf : X.fn x = true ∨ X.env.scope.names.lookup x = some .local) : ST1 X (.Name x pos) (nmT i) :=
  ⟨PG.imp (pg_name hN hi hx hf) fun v σ H Q ⟨δ, w, S, d, env, st, r, h⟩ => h _ H w (.refl _ _) st (env.set i r)⟩
def subV : D → D → D → DEnv → M DEnv
  | .dat p, .ref n, .dat (.int k) => fun δ S2 => (opt S2[n]? S2).bind fun ds S2 => (opt (ixN ds.length k) S2).bind fun j S2 => .ok δ (S2.set n (ds.set j p))
  | _, _, _ => fun _ _ => .bad
def subT (fo fi : DEnv → M D) : D → DEnv → M DEnv := fun d δ S => (fo δ S).bind fun o S1 => (fi δ S1).bind fun k S2 => subV d o k δ S2
theorem subV_inv {d o k : D} {δ δ' : DEnv} {S S' : Store} (h : subV d o k δ S = .ok δ' S') : ∃ p n i ds j, d = .dat p ∧ o = .ref n ∧ k = .dat (.int i) ∧ S[n]? = some ds ∧ ixN ds.length i = some j ∧ δ' = δ ∧ S' = S.set n (ds.set j p) := by
  unfold subV at h
  split at h
  · rename_i p n i
    cases hn : S[n]? with
    | none => rw [hn] at h; cases h
    | some ds =>
      rw [hn] at h
      have h : (opt (ixN ds.length i) S).bind (fun j S2 => (.ok δ (S2.set n (ds.set j p)) : R DEnv)) = .ok δ' S' := h
      cases hj : ixN ds.length i with
      | none => rw [hj] at h; cases h
      | some j =>
        rw [hj] at h
        cases h
        exact ⟨p, n, i, ds, j, rfl, rfl, rfl, hn, hj, rfl, rfl⟩
  · cases h
theorem okOnly {α ν : Type} {G : Str → Option Value} {K : PySem.W.Frag} {W : WX} {σ : L2.St} {Rp : Hp → Wd → ν → α → Prop} {H : Hp} {w : Wd} {r : R α} {Q : ν → Hp → Prop} {a : α} {S : Store} (e : r = .ok a S) (k : ∀ v H' w', Ext H w H' w' → Stt K H' w' S → Rp H' w' v a → Q v H') : PostG G K W σ Rp H w r Q := by
  subst e; exact k
theorem bind_ok_inv {α β : Type} {r : R α} {f : α → Store → R β} {b : β} {S : Store} (h : r.bind f = .ok b S) : ∃ a S1, r = .ok a S1 ∧ f a S1 = .ok b S := by
  cases r with
  | ok a S1 => exact ⟨a, S1, rfl, h⟩
  | exc x S1 => cases h
  | bad => cases h
theorem match_ok {r : R DEnv} {P : DEnv → Store → Prop} (h : match r with | .ok δ' S' => P δ' S' | _ => False) : ∃ δ' S', r = .ok δ' S' ∧ P δ' S' := by
  cases r with
  | ok a S1 => exact ⟨a, S1, rfl, h⟩
  | exc x S1 => exact h.elim
  | bad => exact h.elim
theorem st_sub (ho : SE X W o fo) (hi : SE X W i fi) (ha : ∀ v, assign (.Subscript o i pos) X.env v = (do
      let ov ← holding [v] (eval o X.env)
      let iv ← holding [v, ov] (eval i X.env)
      standAt pos
      holding [v, ov, iv] (setItem ov iv v)
      release [v, ov, iv] [])) : ST1 X (.Subscript o i pos) (subT fo fi) :=
  ⟨PG.imp (pg_sub ho.pe hi.pe set_list ha) fun v σ H Q ⟨δ, w, S, d, env, st, r, h⟩ => by
    obtain ⟨δ', S', e, h⟩ := match_ok h
    obtain ⟨a, S1, e1, e⟩ := bind_ok_inv e
    obtain ⟨k, S2, e2, e⟩ := bind_ok_inv e
    refine ⟨δ, w, S, env, st, okOnly e1 fun x H1 w1 x1 st1 rx => ⟨δ, w1, S1, env.mono x1, st1, okOnly e2 fun y H2 w2 x2 st2 ry => ?_⟩⟩
    obtain ⟨p, n, i, ds, j, rfl, rfl, rfl, hn, hj, rfl, rfl⟩ := subV_inv e
    obtain ⟨a, ha, rfl⟩ := rx.mono x2
    cases ry
    obtain ⟨vs, hv, fv⟩ := st2.cel n a _ ha hn
    have fp : Fz X.K H2 w2 v p := Fz.mono (x1.trans x2).mono r
    obtain ⟨x3, st3⟩ := st2.write ha (FzA.set j fp fv)
    exact ⟨a, vs, i, j, rfl, rfl, hv, by rw [fv.length]; exact hj, h σ _ w2 ((x1.trans x2).trans x3) st3 ((env.mono (x1.trans x2)).mono x3)⟩⟩
def asgS (fe : DEnv → M D) (gt : D → DEnv → M DEnv) : MS := fun δ S => (fe δ S).bindS δ fun d S1 => match gt d δ S1 with
  | .ok δ' S2 => .ok (.nx δ') S2
  | _ => .bad
theorem asg_of {σ : L2.St} {H : Hp} {Dn : Ends} (h : tS X.mg X.K W (asgS fe gt) Dn σ H) : tAsg (tG X.mg X.K W (RpD X.K) fe) (tT X.K gt) Dn σ H := by
  obtain ⟨δ, w, S, env, st, h⟩ := h
  refine ⟨δ, w, S, env, st, PostS.bind h env fun v H' w' d S' e' st' rv h => ⟨δ, w', S', d, env.mono e', st', rv, ?_⟩⟩
  cases e : gt d δ S' with
  | ok δ' S2 => rw [e] at h; exact h
  | exc x S2 => rw [e] at h; exact h
  | bad => rw [e] at h; exact h
theorem ss_asg (he : SE X W e fe) (hg : ST1 X tg gt) (hs : swapsWithSole [tg] e pos.line X.env = pure false) (hw : swappedStores [tg] e X.env = pure none)
    (h1 : (assignEach [tg] X.env).map (·.2) = [assign tg X.env]) : SS X W (.Assign [tg] e pos) (asgS fe gt) := ⟨PS.imp (ps_asg he.pe hg.pg hs hw h1) fun Dn σ H h => asg_of h⟩
theorem ss_set {i : Nat} {x : Str} {pos' : Pos} (hN : X.N.Nodup) (hi : X.N[i]? = some x) (hx : Loc X.env.scope x) (he : SE X W e fe) (hs : swapsWith e (some (.Name x pos')) pos.line X.env = pure false)
    (hf : X.fn x = true ∨ X.env.scope.names.lookup x = some .local) : SS X W (.Assign [.Name x pos'] e pos) (asgS fe (nmT i)) :=
  ⟨PS.imp (ps_set hN hi hx he.pe hs hf) fun Dn σ H ⟨δ, w, S, env, st, h⟩ => ⟨δ, w, S, env, st, PostS.bind h env fun v H' w' d S' e' st' rv h => h _ H' w' (.refl _ _) st' ((env.mono e').set i rv)⟩⟩
/-- (t1, t2, ..) = a tuple -/
def tsT : List (D → DEnv → M DEnv) → List PD → DEnv → M DEnv
  | [], [], δ, S => .ok δ S
  | g :: gs, p :: ps, δ, S => (g (.dat p) δ S).bind fun δ1 S1 => tsT gs ps δ1 S1
  | _, _, _, _ => .bad
def tupT (gs : List (D → DEnv → M DEnv)) : D → DEnv → M DEnv := fun d δ S => match d with
  | .dat (.tuple ps) => tsT gs ps δ S
  | _ => .bad
def tTs (K : PySem.W.Frag) (gs : List (D → DEnv → M DEnv)) : TGs := fun vs σ H Q => ∃ δ w S ps, EnvR K H w σ δ ∧ Stt K H w S ∧ FzA K H w vs ps ∧ match tsT gs ps δ S with
  | .ok δ' S' => ∀ σ' H' w', Ext H w H' w' → Stt K H' w' S' → EnvR K H' w' σ' δ' → Q σ' H'
  | _ => False
structure ST2 (X : Cx) (ts : List Expr) (gs : List (D → DEnv → M DEnv)) : Prop where
  pgs : PGs X ts (tTs X.K gs)
theorem PGs.imp {ts : List Expr} {t t' : TGs} (h : PGs X ts t) (k : ∀ v σ H Q, t' v σ H Q → t v σ H Q) : PGs X ts t' := ⟨fun pins s σ H v u Q I r q => h.run pins s σ H v u Q I r (k _ _ _ _ q)⟩
theorem st2_nil : ST2 X [] [] := ⟨PGs.imp pgs_nil fun v σ H Q ⟨δ, w, S, ps, env, st, f, h⟩ => by
  cases f with
  | nil => exact ⟨rfl, h σ H w (.refl _ _) st env⟩
  | cons a b => exact h.elim⟩
theorem st2_cons {t : Expr} {ts : List Expr} {gs : List (D → DEnv → M DEnv)} (h1 : ST1 X t gt) (h2 : ST2 X ts gs) (hs : (assignEach (t :: ts) X.env).map (·.2) = assign t X.env :: (assignEach ts X.env).map (·.2)) : ST2 X (t :: ts) (gt :: gs) :=
  ⟨PGs.imp (pgs_cons h1.pg h2.pgs hs) fun v σ H Q ⟨δ, w, S, ps, env, st, f, h⟩ => by
    cases f with
    | nil => exact h.elim
    | @cons v vs p ps a b =>
      refine ⟨v, vs, rfl, δ, w, S, .dat p, env, st, a, ?_⟩
      obtain ⟨δ', S', e, h⟩ := match_ok h
      obtain ⟨δ1, S1, e1, e⟩ := bind_ok_inv e
      rw [e1]
      intro σ1 H1 w1 x1 st1 env1
      refine ⟨δ1, w1, S1, ps, env1, st1, b.mono x1.mono, ?_⟩
      rw [e]
      exact fun σ' H' w' x' => h σ' H' w' (x1.trans x')⟩
theorem st_tup {ts : List Expr} {gs : List (D → DEnv → M DEnv)} {k : Nat} {n : Nat} (hc : X.calm = true) (h : ST2 X ts gs) (hn : (assignEach ts X.env).length = n) (hl : gs.length = n) (hst : (assignEach ts X.env).findIdx? (·.1) = none) : ST1 X (.Tuple ts k pos) (tupT gs) :=
  ⟨PG.imp (pg_tup (n := n) hc h.pgs hn hst) fun v σ H Q ⟨δ, w, S, d, env, st, r, h⟩ => by
    cases d with
    | ref n => exact h.elim
    | dat p =>
    cases p with
    | tuple ps =>
      cases r with
      | tup l f =>
        refine ⟨_, _, rfl, l.seq, ?_, δ, w, S, ps, env, st, f, h⟩
        rw [f.length, ← hl]
        have len : ∀ (gs : List (D → DEnv → M DEnv)) (ps : List PD) (δ : DEnv) (S : Store) δ' S', tsT gs ps δ S = .ok δ' S' → ps.length = gs.length := by
          intro gs
          induction gs with
          | nil => intro ps δ S δ' S' e; cases ps with | nil => rfl | cons a b => cases e
          | cons g gs ih =>
            intro ps δ S δ' S' e
            cases ps with
            | nil => cases e
            | cons p ps =>
              obtain ⟨δ1, S1, _, e⟩ := bind_ok_inv e
              rw [List.length_cons, List.length_cons, ih ps δ1 S1 δ' S' e]
        obtain ⟨δ', S', e, _⟩ := match_ok h
        exact len gs ps δ S δ' S' e
    | _ => exact h.elim⟩
/-- a, b = x, y -/
def parS (i j : Nat) (fs : DEnv → M (List D)) : MS := fun δ S => (fs δ S).bindS δ fun ds S1 => match ds with
  | [d, d'] => .ok (.nx ((δ.set i (some d)).set j (some d'))) S1
  | _ => .bad
end
end DL

set_option Elab.async false
set_option linter.all false
set_option maxRecDepth 100000
set_option maxHeartbeats 4000000
/-! DLj: loops and comprehensions by data. -/
namespace DL
open PySem PySem.Spec PyProof.Rows L2

/-- what is walked: its items; the cell that they are, if they are one's -/
structure Src where
  ds : List PD
  cs : List (Nat × List PD)
def Src.ok (src : Src) (S : Store) : Prop := ∀ q ∈ src.cs, S[q.1]? = some q.2
/-- the iterator J yields them, as long as the cell is not changed -/
def ItD (K : PySem.W.Frag) (H : Hp) (w : Wd) (J : It) (src : Src) : Prop := ∀ H' w' S', Far H w H' w' → Stt K H' w' S' → src.ok S' →
  (∀ (i : Nat) (p : PD), src.ds[i]? = some p → J.go i H' ∧ ∀ x H'', J.yld i H' x H'' → Same H' H'' ∧ Fz K H'' w' x p) ∧ J.stop src.ds.length H'
structure SI (X : Cx) (W : WX) (tg iter : Expr) (f : DEnv → M Src) : Prop where
  pi : PI X tg iter (fun σ H R => tG X.mg X.K W (fun H w J src => ItD X.K H w J src) f σ H R)
theorem PI.imp {X : Cx} {tg it : Expr} {t t' : TI} (h : PI X tg it t) (k : ∀ σ H Q, t' σ H Q → t σ H Q) : PI X tg it t' := ⟨fun pins s σ H Q I q => h.run pins s σ H Q I (k _ _ _ q)⟩
def srcD (S : Store) : D → Option Src
  | .dat (.list ds) => some ⟨ds, []⟩
  | .dat (.tuple ds) => some ⟨ds, []⟩
  | .dat (.str z) => some ⟨signsP z, []⟩
  | .ref n => S[n]?.map fun ds => ⟨ds, [(n, ds)]⟩
  | _ => none
def seqI (fe : DEnv → M D) : DEnv → M Src := fun δ S => (fe δ S).bind fun d S1 => (opt (srcD S1 d) S1).bind fun src S1 => .ok src S1
/-- x is a list, a tuple, a text -/
def iAny (K : PySem.W.Frag) (tl : TE) : TI := fun σ H R => tl σ H fun x H1 => (∃ a, x = .ref a ∧ (∃ xs, SqL K H1 a xs) ∧ R (Itl K a) H1) ∨ (∃ a, x = .ref a ∧ (∃ xs, SqT K H1 a xs) ∧ R (Itt K a) H1) ∨ ∃ z, x = .str z ∧ R (Its z) H1
section
variable {X : Cx} {W : WX} {e a b tg : Expr} {fe fa fb : DEnv → M D} {pos : Pos}
theorem pi_any {tl : TE} (hl : PE X e tl) : PI X tg e (iAny X.K tl) := by
  refine ⟨fun pins s σ H R I h => thn (hl.run pins s σ H _ I h) fun v s1 ⟨x, H1, I1, r1, q1⟩ => ?_⟩
  rcases q1 with ⟨a, rfl, ⟨xs, hq⟩, q⟩ | ⟨a, rfl, ⟨xs, hq⟩, q⟩ | ⟨z, rfl, q⟩
  · cases r1
    obtain ⟨its, _, plain, _⟩ := I1.list hq
    exact wpAny_pyIter_list plain.isList (pi_one (tk := s1.toks) I1 _ (turn_list a _) ⟨_, Heap.get?_push_size _ rfl, rfl, rfl⟩ q)
  · cases r1
    obtain ⟨its, _, plain, _⟩ := I1.tuple hq
    exact wpAny_pyIter_tuple (show s1.heap.IsTuple a its.toArray from plain) (pi_one (tk := s1.toks) I1 _ (turn_tuple a _) ⟨_, Heap.get?_push_size _ rfl, rfl, rfl⟩ q)
  · obtain ⟨t, rfl⟩ := r1
    by_cases ascii : z.cps.all (· < 128) = true
    · exact wpAny_pyIter_ascii ascii (pi_one (tk := s1.toks) I1 _ (turn_str _ z t "str_ascii_iterator" (.inl rfl)) ⟨_, Heap.get?_push_size _ rfl, rfl, rfl⟩ q)
    · exact wpAny_pyIter_wide (Bool.not_eq_true _ ▸ ascii) (pi_one (tk := s1.toks) I1 _ (turn_str _ z t "str_iterator" (.inr rfl)) ⟨_, Heap.get?_push_size _ rfl, rfl, rfl⟩ q)
theorem itl_of {K : PySem.W.Frag} {H : Hp} {w : Wd} {l : Addr} {xs : List V} {ds : List PD} (hl : SqL K H l xs) (f : FzA K H w xs ds) :
    (∀ (i : Nat) (p : PD), ds[i]? = some p → (Itl K l).go i H ∧ ∀ x H'', (Itl K l).yld i H x H'' → Same H H'' ∧ Fz K H'' w x p) ∧ (Itl K l).stop ds.length H := by
  refine ⟨fun i p hp => ?_, xs, hl, Nat.le_of_eq f.length⟩
  obtain ⟨v, hv, fz⟩ := f.get' hp
  refine ⟨⟨xs, v, hl, hv⟩, fun x H'' ⟨e1, e2⟩ => ?_⟩
  subst e1
  have := e2 xs hl
  rw [hv] at this; cases this
  exact ⟨.refl _, fz⟩
theorem itt_of {K : PySem.W.Frag} {H : Hp} {w : Wd} {l : Addr} {xs : List V} {ds : List PD} (hl : SqT K H l xs) (f : FzA K H w xs ds) :
    (∀ (i : Nat) (p : PD), ds[i]? = some p → (Itt K l).go i H ∧ ∀ x H'', (Itt K l).yld i H x H'' → Same H H'' ∧ Fz K H'' w x p) ∧ (Itt K l).stop ds.length H := by
  refine ⟨fun i p hp => ?_, xs, hl, Nat.le_of_eq f.length⟩
  obtain ⟨v, hv, fz⟩ := f.get' hp
  refine ⟨⟨xs, v, hl, hv⟩, fun x H'' ⟨e1, e2⟩ => ?_⟩
  subst e1
  have := e2 xs hl
  rw [hv] at this; cases this
  exact ⟨.refl _, fz⟩
theorem si_seq (he : SE X W e fe) : SI X W tg e (seqI fe) :=
  ⟨PI.imp (pi_any he.pe) fun σ H R ⟨δ, w, S, env, st, h⟩ => ⟨δ, w, S, env, st, PostG.bind h fun v H1 w1 d S1 e1 st1 rv h => by
    obtain ⟨src, hs, h⟩ := h.opt
    cases d with
    | ref n =>
      obtain ⟨l, hl, rfl⟩ := rv
      cases hn : S1[n]? with
      | none => simp [srcD, hn] at hs
      | some ds =>
        simp [srcD, hn] at hs; subst hs
        obtain ⟨vs, q1, q2⟩ := st1.cel n l ds hl hn
        refine .inl ⟨l, rfl, ⟨vs, SqL.of q1⟩, h.ok (.refl _ _) st1 fun H' w' S' e' st' ok => ?_⟩
        have hl' : w'.c[n]? = some l := by
          obtain ⟨t, et⟩ := e'.pre
          rw [et, List.getElem?_append_left (List.getElem?_eq_some_iff.mp hl).1]; exact hl
        obtain ⟨vs', k1, k2⟩ := st'.cel n l ds hl' (ok (n, ds) List.mem_cons_self)
        exact itl_of (SqL.of k1) k2
    | dat p =>
      cases p with
      | list ds =>
        cases hs
        cases rv with
        | lst l f =>
          refine .inl ⟨_, rfl, ⟨_, l.seq⟩, h.ok (.refl _ _) st1 fun H' w' S' e' st' ok => ?_⟩
          exact itl_of (l.mono e'.mono).seq (f.mono e'.mono)
      | tuple ds =>
        cases hs
        cases rv with
        | tup l f =>
          refine .inr (.inl ⟨_, rfl, ⟨_, l.seq⟩, h.ok (.refl _ _) st1 fun H' w' S' e' st' ok => ?_⟩)
          exact itt_of (l.mono e'.mono).seq (f.mono e'.mono)
      | str z =>
        cases hs
        cases rv
        refine .inr (.inr ⟨z, rfl, h.ok (.refl _ _) st1 fun H' w' S' e' st' ok => ⟨fun i p hp => ?_, ?_⟩⟩)
        · rw [show (Src.mk (signsP z) []).ds = z.cps.toList.map fun c => PyData.str ⟨#[c]⟩ from rfl, List.getElem?_map] at hp
          cases hc : z.cps.toList[i]? with
          | none => rw [hc] at hp; cases hp
          | some c =>
            rw [hc] at hp; cases hp
            have hi : i < z.cps.size := by simpa using (List.getElem?_eq_some_iff.mp hc).1
            refine ⟨hi, fun x H'' ⟨y1, c', y2, y3⟩ => ?_⟩
            subst y1; subst y3
            have hc2 : z.cps[i]? = some c := by simpa using hc
            rw [hc2] at y2; cases y2
            exact ⟨.refl _, .str _⟩
        · show z.cps.size ≤ (signsP z).length
          simp [signsP]
      | _ => cases hs⟩⟩
/-! range -/
def rangeL (lo : Int) (n : Nat) : List PD := (List.range n).map fun i => .int (lo + (i : Nat))
def rngI1 (fe : DEnv → M D) : DEnv → M Src := fun δ S => (fe δ S).bind fun d S1 => match d with
  | .dat (.int j) => if -(2 ^ 62) ≤ j ∧ j < 2 ^ 62 then .ok ⟨rangeL 0 j.toNat, []⟩ S1 else .bad
  | _ => .bad
def rngI2 (fa fb : DEnv → M D) : DEnv → M Src := fun δ S => (fa δ S).bind fun c S1 => (fb δ S1).bind fun d S2 => match c, d with
  | .dat (.int i), .dat (.int j) => if -(2 ^ 62) ≤ i ∧ i < 2 ^ 62 ∧ -(2 ^ 62) ≤ j ∧ j < 2 ^ 62 then .ok ⟨rangeL i (j - i).toNat, []⟩ S2 else .bad
  | _, _ => .bad
theorem itr_of {K : PySem.W.Frag} {H : Hp} {w : Wd} (lo : Int) (n : Nat) : ItD K H w (Itr lo n) ⟨rangeL lo n, []⟩ := fun H' w' S' e' st' ok => by
  refine ⟨fun i p hp => ?_, by show n ≤ (rangeL lo n).length; simp [rangeL]⟩
  have hp : ((List.range n).map fun i => PyData.int (lo + ((i : Nat) : Int)))[i]? = some p := hp
  rw [List.getElem?_map] at hp
  cases hc : (List.range n)[i]? with
  | none => rw [hc] at hp; cases hp
  | some c =>
    rw [hc] at hp; cases hp
    obtain ⟨hi, e⟩ := List.getElem?_eq_some_iff.mp hc
    rw [List.getElem_range] at e
    subst e
    exact ⟨show i < n by simpa using hi, fun x H'' ⟨y1, y2⟩ => by subst y1; subst y2; exact ⟨.refl _, .int _⟩⟩
theorem si_range1 {p : Pos} (hg : Gl X "range") (hm : X.mg "range" = none) (he : SE X W e fe) (hs : starEach [e] X.env = [(false, eval e X.env)]) : SI X W tg (.Call (.Name "range" p) [e] [] pos) (rngI1 fe) :=
  ⟨PI.imp (pi_range1 hg hm (pa_cons he.pe pa_nil hs) hs) fun σ H R ⟨δ, w, S, env, st, h⟩ => ⟨δ, w, S, env, st, PostG.bind h fun v H1 w1 d S1 e1 st1 rv h => by
    split at h
    · cases rv
      split at h
      · rename_i j hj
        exact ⟨j, rfl, hj.1, hj.2, h.ok (.refl _ _) st1 (itr_of _ _)⟩
      · exact h.elim
    · exact h.elim⟩⟩
theorem si_range2 {p : Pos} (hg : Gl X "range") (hm : X.mg "range" = none) (ha : SE X W a fa) (hb : SE X W b fb) (hs : starEach [a, b] X.env = [(false, eval a X.env), (false, eval b X.env)]) (hs2 : starEach [b] X.env = [(false, eval b X.env)]) :
    SI X W tg (.Call (.Name "range" p) [a, b] [] pos) (rngI2 fa fb) :=
  ⟨PI.imp (pi_range2 hg hm (pa_cons ha.pe (pa_cons hb.pe pa_nil hs2) (by rw [hs, hs2])) hs hs2) fun σ H R ⟨δ, w, S, env, st, h⟩ => ⟨δ, w, S, env, st, PostG.bind h fun v H1 w1 d S1 e1 st1 rv h =>
    ⟨δ, w1, S1, env.mono e1, st1, PostG.bind h fun u H2 w2 c S2 e2 st2 ru h => by
      split at h
      · cases rv; cases ru
        split at h
        · rename_i j hj
          exact ⟨_, _, rfl, hj, h.ok (.refl _ _) st2 (itr_of _ _)⟩
        · exact h.elim
      · exact h.elim⟩⟩⟩
/-! for -/
open Classical in
noncomputable def forF (src : Src) (tgt : D → DEnv → M DEnv) (body : MS) : List PD → MS
  | [], δ, S => if src.ok S then .ok (.nx δ) S else .bad
  | p :: ps, δ, S => if src.ok S then (match tgt (.dat p) δ S with
    | .ok δ1 S1 => (match body δ1 S1 with
      | .ok (.nx δ2) S2 => forF src tgt body ps δ2 S2
      | .ok (.ct δ2) S2 => forF src tgt body ps δ2 S2
      | .ok (.brk δ2) S2 => .ok (.nx δ2) S2
      | r => r)
    | _ => .bad) else .bad
noncomputable def forS (fi : DEnv → M Src) (tgt : D → DEnv → M DEnv) (body : MS) : MS := fun δ S => (fi δ S).bindS δ fun src S1 => forF src tgt body src.ds δ S1
theorem ss_for {iter : Expr} {body : List Stmt} {fi : DEnv → M Src} {tgt : D → DEnv → M DEnv} {fb : MS} (hp : PassesOwn (model X.prog X.w) X.A X.env X.xe) (hc : X.calm = true) (hi : SI X W tg iter fi) (hg : ST1 X tg tgt) (hb : SSs X W body fb)
    (hs : ∀ x, foldedSetIterable iter X.env x = pure x) : SS X W (.For tg iter body [] pos) (forS fi tgt fb) :=
  ⟨PS.imp (ps_for hp hc hi.pi hg.pg hb.ps hs) fun Dn σ H ⟨δ, w, S, env, st, h⟩ => ⟨δ, w, S, env, st, PostS.bind h env fun J H1 w1 src S1 e1 st1 it h => by
    refine ⟨fun i m σ' H' => i + m = src.ds.length ∧ ∃ δ' w' S', EnvR X.K H' w' σ' δ' ∧ Stt X.K H' w' S' ∧ Ext H1 w1 H' w' ∧ PostS X.mg X.K W H' w' (forF src tgt fb (src.ds.drop i) δ' S') Dn,
      ⟨src.ds.length, by simp, δ, w1, S1, env.mono e1, st1, .refl _ _, h⟩, fun i m σ' H' ⟨him, δ', w', S', env', st', x', h'⟩ => ?_⟩
    by_cases hm : m = 0
    · subst hm
      have hd : src.ds.drop i = [] := List.drop_eq_nil_of_le (by omega)
      rw [hd] at h'
      simp only [forF] at h'
      split at h'
      · rename_i ok
        have q := (it H' w' S' x'.far st' ok).2
        rw [← him] at q
        exact .inl ⟨q, h' σ' H' w' (.refl _ _) st' env'⟩
      · exact h'.elim
    · have hi : i < src.ds.length := by omega
      rw [List.drop_eq_getElem_cons hi] at h'
      simp only [forF] at h'
      split at h'
      · rename_i ok
        obtain ⟨go, yl⟩ := (it H' w' S' x'.far st' ok).1 i src.ds[i] (List.getElem?_eq_getElem hi)
        refine .inr ⟨go, fun σ2 H2 => (i + 1) + (m - 1) = src.ds.length ∧ ∃ δ2 w2 S2, EnvR X.K H2 w2 σ2 δ2 ∧ Stt X.K H2 w2 S2 ∧ Ext H1 w1 H2 w2 ∧ PostS X.mg X.K W H2 w2 (forF src tgt fb (src.ds.drop (i + 1)) δ2 S2) Dn,
          fun σ2 H2 q => ⟨m - 1, by omega, q⟩, fun x H2 hy => ?_⟩
        obtain ⟨sm, fz⟩ := yl x H2 hy
        have e2 : Ext H' w' H2 w' := .same sm
        refine ⟨δ', w', S', .dat src.ds[i], env'.mono e2, st'.same sm, fz, ?_⟩
        cases et : tgt (.dat src.ds[i]) δ' S' with
        | ok δ1 S1' =>
          rw [et] at h'; simp only [] at h'
          refine fun σ3 H3 w3 e3 st3 env3 => ⟨δ1, w3, S1', env3, st3, ?_⟩
          have h3 := PostS.ext h' (e2.trans e3)
          have x3 := (x'.trans e2).trans e3
          cases eb : fb δ1 S1' with
          | ok fl S2 =>
            rw [eb] at h3
            cases fl with
            | nx δ2 => exact fun σ4 H4 w4 e4 st4 env4 => ⟨by omega, δ2, w4, S2, env4, st4, x3.trans e4, PostS.ext h3 e4⟩
            | ct δ2 => exact fun σ4 H4 w4 e4 st4 env4 => ⟨by omega, δ2, w4, S2, env4, st4, x3.trans e4, PostS.ext h3 e4⟩
            | brk δ2 => exact h3
            | ret d => exact h3
            | rtT ds => exact h3
          | exc xn δ2 S2 => rw [eb] at h3; exact h3
          | bad => rw [eb] at h3; exact h3
        | exc xn S1' => rw [et] at h'; exact h'.elim
        | bad => rw [et] at h'; exact h'.elim
      · exact h'.elim⟩⟩
/-! while -/
def whileN : Nat → (DEnv → M Bool) → MS → MS
  | 0, _, _, _, _ => .bad
  | n + 1, ft, fb, δ, S => (ft δ S).bindS δ fun k S1 => if k = true then (match fb δ S1 with
      | .ok (.nx δ2) S2 => whileN n ft fb δ2 S2
      | .ok (.ct δ2) S2 => whileN n ft fb δ2 S2
      | .ok (.brk δ2) S2 => .ok (.nx δ2) S2
      | r => r) else .ok (.nx δ) S1
theorem whileN_mono {ft : DEnv → M Bool} {fb : MS} : ∀ {n : Nat} {δ : DEnv} {S : Store}, whileN n ft fb δ S ≠ .bad → whileN (n + 1) ft fb δ S = whileN n ft fb δ S
  | 0, δ, S, h => absurd rfl h
  | n + 1, δ, S, h => by
    rw [whileN] at h ⊢
    conv => rhs; rw [whileN]
    cases et : ft δ S with
    | ok k S1 =>
      rw [et] at h
      simp only [R.bindS] at h ⊢
      split
      · rename_i hk
        rw [if_pos hk] at h
        cases eb : fb δ S1 with
        | ok fl S2 =>
          rw [eb] at h
          cases fl with
          | nx δ2 => exact whileN_mono h
          | ct δ2 => exact whileN_mono h
          | brk δ2 => rfl
          | ret d => rfl
          | rtT ds => rfl
        | exc xn δ2 S2 => rfl
        | bad => rfl
      · rfl
    | exc xn S1 => rfl
    | bad => rfl
theorem whileN_add {ft : DEnv → M Bool} {fb : MS} {n : Nat} {δ : DEnv} {S : Store} (h : whileN n ft fb δ S ≠ .bad) : ∀ k, whileN (n + k) ft fb δ S = whileN n ft fb δ S
  | 0 => rfl
  | k + 1 => by
    have ih := whileN_add h k
    rw [← Nat.add_assoc, whileN_mono (by rw [ih]; exact h), ih]
open Classical in
noncomputable def whileS (ft : DEnv → M Bool) (fb : MS) : MS := fun δ S => if h : ∃ n, whileN n ft fb δ S ≠ .bad then whileN (Classical.choose h) ft fb δ S else .bad
theorem whileS_eq {ft : DEnv → M Bool} {fb : MS} {n : Nat} {δ : DEnv} {S : Store} (h : whileN n ft fb δ S ≠ .bad) : whileS ft fb δ S = whileN n ft fb δ S := by
  have hx : ∃ n, whileN n ft fb δ S ≠ .bad := ⟨n, h⟩
  unfold whileS
  rw [dif_pos hx]
  have h2 := Classical.choose_spec hx
  rcases Nat.le_total n (Classical.choose hx) with le | le
  · obtain ⟨k, hk⟩ := Nat.exists_eq_add_of_le le
    rw [hk, whileN_add h k]
  · obtain ⟨k, hk⟩ := Nat.exists_eq_add_of_le le
    have := whileN_add h2 k
    rw [← hk] at this
    exact this.symm
/-- one turn -/
theorem whileS_step {ft : DEnv → M Bool} {fb : MS} (δ : DEnv) (S : Store) : whileS ft fb δ S = (ft δ S).bindS δ fun k S1 => if k = true then (match fb δ S1 with
      | .ok (.nx δ2) S2 => whileS ft fb δ2 S2
      | .ok (.ct δ2) S2 => whileS ft fb δ2 S2
      | .ok (.brk δ2) S2 => .ok (.nx δ2) S2
      | r => r) else .ok (.nx δ) S1 := by
  cases et : ft δ S with
  | ok k S1 =>
    simp only [R.bindS]
    have cont : ∀ δ2 S2, (∀ n, whileN (n + 1) ft fb δ S = whileN n ft fb δ2 S2) → whileS ft fb δ S = whileS ft fb δ2 S2 := fun δ2 S2 k => by
      by_cases hx : ∃ n, whileN n ft fb δ2 S2 ≠ .bad
      · obtain ⟨n, hn⟩ := hx
        rw [whileS_eq hn, whileS_eq (n := n + 1) (by rw [k]; exact hn), k]
      · have hy : ¬ ∃ n, whileN n ft fb δ S ≠ .bad := fun ⟨n, hn⟩ => by
          cases n with
          | zero => exact hn rfl
          | succ n => exact hx ⟨n, by rw [← k]; exact hn⟩
        unfold whileS
        rw [dif_neg hx, dif_neg hy]
    have one : ∀ r, whileN 1 ft fb δ S = r → r ≠ .bad → whileS ft fb δ S = r := fun r e hr => by rw [whileS_eq (n := 1) (by rw [e]; exact hr), e]
    have bad : (∀ n, whileN n ft fb δ S = .bad) → whileS ft fb δ S = .bad := fun k => by
      unfold whileS
      rw [dif_neg fun ⟨n, hn⟩ => hn (k n)]
    split
    · rename_i hk
      subst hk
      cases eb : fb δ S1 with
      | ok fl S2 =>
        cases fl with
        | nx δ2 => exact cont δ2 S2 fun n => by rw [whileN, et]; simp [R.bindS, eb]
        | ct δ2 => exact cont δ2 S2 fun n => by rw [whileN, et]; simp [R.bindS, eb]
        | brk δ2 => exact one _ (by rw [whileN, et]; simp [R.bindS, eb]) (by simp)
        | ret d => exact one _ (by rw [whileN, et]; simp [R.bindS, eb]) (by simp)
        | rtT ds => exact one _ (by rw [whileN, et]; simp [R.bindS, eb]) (by simp)
      | exc xn δ2 S2 => exact one _ (by rw [whileN, et]; simp [R.bindS, eb]) (by simp)
      | bad => exact bad fun n => by cases n with | zero => rfl | succ n => rw [whileN, et]; simp [R.bindS, eb]
    · rename_i hk
      exact one _ (by rw [whileN, et]; simp [R.bindS, hk]) (by simp)
  | exc xn S1 =>
    simp only [R.bindS]
    rw [whileS_eq (n := 1) (by rw [whileN, et]; simp [R.bindS]), whileN, et]
    rfl
  | bad =>
    simp only [R.bindS]
    unfold whileS
    rw [dif_neg fun ⟨n, hn⟩ => hn (by cases n with | zero => rfl | succ n => rw [whileN, et]; rfl)]
theorem ss_while {c : Expr} {body : List Stmt} {ft : DEnv → M Bool} {fb : MS} (hp : PassesOwn (model X.prog X.w) X.A X.env X.xe) (hc : ST X W c ft) (hb : SSs X W body fb) : SS X W (.While c body [] pos) (whileS ft fb) :=
  ⟨PS.imp (ps_while hp hc.pt hb.ps) fun Dn σ H ⟨δ, w, S, env, st, h⟩ => by
    have hx : ∃ n, whileN n ft fb δ S ≠ .bad := by
      apply Classical.byContradiction
      intro hn
      unfold whileS at h
      rw [dif_neg hn] at h
      exact h
    obtain ⟨n, hn⟩ := hx
    rw [whileS_eq hn] at h
    refine ⟨fun m σ' H' => ∃ δ' w' S', EnvR X.K H' w' σ' δ' ∧ Stt X.K H' w' S' ∧ PostS X.mg X.K W H' w' (whileN m ft fb δ' S') Dn, ⟨n, δ, w, S, env, st, h⟩, fun m σ' H' ⟨δ', w', S', env', st', h'⟩ => ?_⟩
    cases m with
    | zero => exact h'.elim
    | succ m =>
      rw [whileN] at h'
      refine ⟨δ', w', S', env', st', PostS.bind h' env' fun v H1 w1 k S1 e1 st1 rv h1 => ?_⟩
      cases rv
      split at h1
      · rename_i hk
        rw [if_pos hk]
        refine ⟨fun σ2 H2 => ∃ δ2 w2 S2, EnvR X.K H2 w2 σ2 δ2 ∧ Stt X.K H2 w2 S2 ∧ PostS X.mg X.K W H2 w2 (whileN m ft fb δ2 S2) Dn, fun σ2 H2 q => ⟨m, Nat.lt_succ_self m, q⟩, δ', w1, S1, env'.mono e1, st1, ?_⟩
        cases eb : fb δ' S1 with
        | ok fl S2 =>
          rw [eb] at h1
          cases fl with
          | nx δ2 => exact fun σ4 H4 w4 e4 st4 env4 => ⟨δ2, w4, S2, env4, st4, PostS.ext h1 e4⟩
          | ct δ2 => exact fun σ4 H4 w4 e4 st4 env4 => ⟨δ2, w4, S2, env4, st4, PostS.ext h1 e4⟩
          | brk δ2 => exact h1
          | ret d => exact h1
          | rtT ds => exact h1
        | exc xn δ2 S2 => rw [eb] at h1; exact h1
        | bad => rw [eb] at h1; exact h1
      · rename_i hk
        rw [if_neg hk]
        exact h1 σ' H1 w1 (.refl _ _) st1 (env'.mono e1)⟩
end
end DL

set_option Elab.async false
set_option linter.all false
set_option maxRecDepth 100000
set_option maxHeartbeats 4000000
/-! DLk: list comprehensions by data. -/
namespace DL
open PySem PySem.Spec PyProof.Rows L2

/-! ### the target of a clause: its own names alone -/
def wipeD (δ : DEnv) : List Nat → DEnv
  | [] => δ
  | v :: vs => (wipeD δ vs).set v none
theorem EnvR.wipe {K : PySem.W.Frag} {H : Hp} {w : Wd} {σ : L2.St} {δ : DEnv} (h : EnvR K H w σ δ) : ∀ vs : List Nat, EnvR K H w (L2.wipe σ vs) (wipeD δ vs)
  | [] => h
  | v :: vs => EnvR.unset (EnvR.wipe h vs) v
theorem wipe_set_ne {σ : L2.St} {i : Nat} {o : Option V} : ∀ {vs : List Nat}, i ∉ vs → L2.wipe (σ.set i o) vs = (L2.wipe σ vs).set i o
  | [], _ => rfl
  | u :: us, h => by
    have h1 : i ≠ u := fun e => h (by rw [e]; exact List.mem_cons_self)
    have h2 : i ∉ us := fun e => h (List.mem_cons_of_mem _ e)
    show (L2.wipe (σ.set i o) us).set u none = ((L2.wipe σ us).set u none).set i o
    rw [wipe_set_ne h2, List.set_comm _ _ h1]
theorem wipe_set {σ : L2.St} {i : Nat} {o : Option V} : ∀ {vs : List Nat}, i ∈ vs → L2.wipe (σ.set i o) vs = L2.wipe σ vs
  | [], h => absurd h (by simp)
  | u :: us, h => by
    show (L2.wipe (σ.set i o) us).set u none = (L2.wipe σ us).set u none
    by_cases h2 : i ∈ us
    · rw [wipe_set h2]
    · have h1 : i = u := by
        rcases List.mem_cons.mp h with e | e
        · exact e
        · exact absurd e h2
      subst h1
      rw [wipe_set_ne h2, List.set_set]
theorem wipe_wipe {σ : L2.St} {vs : List Nat} : ∀ {us : List Nat}, (∀ i ∈ us, i ∈ vs) → L2.wipe (L2.wipe σ us) vs = L2.wipe σ vs
  | [], _ => rfl
  | u :: us, h => by
    show L2.wipe ((L2.wipe σ us).set u none) vs = _
    rw [wipe_set (h u List.mem_cons_self), wipe_wipe fun i hi => h i (List.mem_cons_of_mem _ hi)]
def tV (K : PySem.W.Frag) (vs : List Nat) (g : D → DEnv → M DEnv) : TG := fun v σ H Q => ∃ δ w S d, EnvR K H w σ δ ∧ Stt K H w S ∧ RepD K H w v d ∧ match g d δ S with
  | .ok δ' S' => ∀ σ' H' w', Ext H w H' w' → Stt K H' w' S' → EnvR K H' w' σ' δ' → L2.wipe σ' vs = L2.wipe σ vs → Q σ' H'
  | _ => False
def tVs (K : PySem.W.Frag) (vs : List Nat) (gs : List (D → DEnv → M DEnv)) : TGs := fun us σ H Q => ∃ δ w S ps, EnvR K H w σ δ ∧ Stt K H w S ∧ FzA K H w us ps ∧ match tsT gs ps δ S with
  | .ok δ' S' => ∀ σ' H' w', Ext H w H' w' → Stt K H' w' S' → EnvR K H' w' σ' δ' → L2.wipe σ' vs = L2.wipe σ vs → Q σ' H'
  | _ => False
structure SV (X : Cx) (vs : List Nat) (tg : Expr) (g : D → DEnv → M DEnv) : Prop where
  pg : PG X tg (tV X.K vs g)
structure SVs (X : Cx) (vs : List Nat) (ts : List Expr) (gs : List (D → DEnv → M DEnv)) : Prop where
  pgs : PGs X ts (tVs X.K vs gs)
theorem tsT_len : ∀ {gs : List (D → DEnv → M DEnv)} {ps : List PD} {δ : DEnv} {S : Store} {δ' : DEnv} {S' : Store}, tsT gs ps δ S = .ok δ' S' → ps.length = gs.length
  | [], [], _, _, _, _, _ => rfl
  | [], _ :: _, _, _, _, _, e => by cases e
  | _ :: _, [], _, _, _, _, e => by cases e
  | g :: gs, p :: ps, δ, S, δ', S', e => by
    obtain ⟨δ1, S1, _, e⟩ := bind_ok_inv e
    rw [List.length_cons, List.length_cons, tsT_len e]
section
variable {X : Cx} {vs : List Nat} {pos : Pos} {gt : D → DEnv → M DEnv}
theorem sv_name {i : Nat} {x : Str} (hN : X.N.Nodup) (hi : X.N[i]? = some x) (hx : Loc X.env.scope x) (hf : X.fn x = true ∨ X.env.scope.names.lookup x = some .local) (hv : i ∈ vs) : SV X vs (.Name x pos) (nmT i) :=
  ⟨PG.imp (pg_name hN hi hx hf) fun v σ H Q ⟨δ, w, S, d, env, st, r, h⟩ => h _ H w (.refl _ _) st (env.set i r) (wipe_set hv)⟩
theorem svs_nil : SVs X vs [] [] := ⟨PGs.imp pgs_nil fun v σ H Q ⟨δ, w, S, ps, env, st, f, h⟩ => by
  cases f with
  | nil => exact ⟨rfl, h σ H w (.refl _ _) st env rfl⟩
  | cons a b => exact h.elim⟩
theorem svs_cons {t : Expr} {ts : List Expr} {gs : List (D → DEnv → M DEnv)} (h1 : SV X vs t gt) (h2 : SVs X vs ts gs) (hs : (assignEach (t :: ts) X.env).map (·.2) = assign t X.env :: (assignEach ts X.env).map (·.2)) : SVs X vs (t :: ts) (gt :: gs) :=
  ⟨PGs.imp (pgs_cons h1.pg h2.pgs hs) fun v σ H Q ⟨δ, w, S, ps, env, st, f, h⟩ => by
    cases f with
    | nil => exact h.elim
    | @cons v vs p ps a b =>
      refine ⟨v, vs, rfl, δ, w, S, .dat p, env, st, a, ?_⟩
      obtain ⟨δ', S', e, h⟩ := match_ok h
      obtain ⟨δ1, S1, e1, e⟩ := bind_ok_inv e
      rw [e1]
      intro σ1 H1 w1 x1 st1 env1 k1
      refine ⟨δ1, w1, S1, ps, env1, st1, b.mono x1.mono, ?_⟩
      rw [e]
      exact fun σ' H' w' x' st' env' k' => h σ' H' w' (x1.trans x') st' env' (k'.trans k1)⟩
theorem sv_tup {ts : List Expr} {gs : List (D → DEnv → M DEnv)} {k : Nat} {n : Nat} (hc : X.calm = true) (h : SVs X vs ts gs) (hn : (assignEach ts X.env).length = n) (hl : gs.length = n) (hst : (assignEach ts X.env).findIdx? (·.1) = none) : SV X vs (.Tuple ts k pos) (tupT gs) :=
  ⟨PG.imp (pg_tup (n := n) hc h.pgs hn hst) fun v σ H Q ⟨δ, w, S, d, env, st, r, h⟩ => by
    cases d with
    | ref n => exact h.elim
    | dat p =>
    cases p with
    | tuple ps =>
      cases r with
      | tup l f =>
        refine ⟨_, _, rfl, l.seq, ?_, δ, w, S, ps, env, st, f, h⟩
        rw [f.length, ← hl]
        obtain ⟨δ', S', e, _⟩ := match_ok h
        exact tsT_len e
    | _ => exact h.elim⟩
end
/-! ### the loop -/
def okB {α β : Type} (r : R α) (f : α → Store → R β) : R β := match r with
  | .ok a S => f a S
  | _ => .bad
theorem okB_inv {α β : Type} {r : R α} {f : α → Store → R β} {b : β} {S : Store} (h : okB r f = .ok b S) : ∃ a S1, r = .ok a S1 ∧ f a S1 = .ok b S := by
  cases r with
  | ok a S1 => exact ⟨a, S1, rfl, h⟩
  | exc x S1 => cases h
  | bad => cases h
def datD (d : D) : Option PD := match d with
  | .dat p => some p
  | .ref _ => none
open Classical in
noncomputable def lcLoop (src : Src) (g : D → DEnv → M DEnv) (ft : DEnv → M Bool) (fe : DEnv → M D) (δ : DEnv) : List PD → List PD → M (List PD)
  | [], acc, S => if src.ok S then .ok acc S else .bad
  | p :: ps, acc, S => if src.ok S then okB (g (.dat p) δ S) fun δ1 S1 => okB (ft δ1 S1) fun k S2 => if k = true then okB (fe δ1 S2) fun d S3 => (opt (datD d) S3).bind fun q S3 => if acc.length < sizeLine then lcLoop src g ft fe δ ps (acc ++ [q]) S3 else .bad
      else lcLoop src g ft fe δ ps acc S2 else .bad
noncomputable def lcA (fi : DEnv → M Src) (g : D → DEnv → M DEnv) (ft : DEnv → M Bool) (fe : DEnv → M D) (vs : List Nat) : DEnv → M (List PD) := fun δ S => (fi δ S).bind fun src S1 => lcLoop src g ft fe (wipeD δ vs) src.ds [] S1
noncomputable def lcE (fi : DEnv → M Src) (g : D → DEnv → M DEnv) (ft : DEnv → M Bool) (fe : DEnv → M D) (vs : List Nat) : DEnv → M D := fun δ S => (lcA fi g ft fe vs δ S).bind fun ps S1 => .ok (.dat (.list ps)) S1
noncomputable def lcC (fi : DEnv → M Src) (g : D → DEnv → M DEnv) (ft : DEnv → M Bool) (fe : DEnv → M D) (vs : List Nat) : DEnv → M D := fun δ S => (lcA fi g ft fe vs δ S).bind fun ps S1 => .ok (.ref S1.length) (S1 ++ [ps])
theorem okB_noexc {α β : Type} {r : R α} {f : α → Store → R β} {x : Xn} {S : Store} (k : ∀ a S1, f a S1 ≠ .exc x S) : okB r f ≠ .exc x S := by
  cases r with
  | ok a S1 => exact k a S1
  | exc y S1 => exact fun e => by cases e
  | bad => exact fun e => by cases e
theorem lcLoop_noexc {src : Src} {g : D → DEnv → M DEnv} {ft : DEnv → M Bool} {fe : DEnv → M D} {δ : DEnv} {x : Xn} {S' : Store} : ∀ (ps acc : List PD) (S : Store), lcLoop src g ft fe δ ps acc S ≠ .exc x S'
  | [], acc, S => by
    simp only [lcLoop]
    split <;> exact fun e => by cases e
  | p :: ps, acc, S => by
    simp only [lcLoop]
    split
    · refine okB_noexc fun δ1 S1 => okB_noexc fun k S2 => ?_
      split
      · refine okB_noexc fun d S3 => ?_
        cases datD d with
        | none => exact fun e => by cases e
        | some q =>
          show (if acc.length < sizeLine then lcLoop src g ft fe δ ps (acc ++ [q]) S3 else .bad) ≠ _
          split
          · exact lcLoop_noexc ps _ _
          · exact fun e => by cases e
      · exact lcLoop_noexc ps _ _
    · exact fun e => by cases e
/-- w with D hidden -/
abbrev Wd.hide (w : Wd) (D : Addr) : Wd := ⟨w.c, D :: w.z⟩
section
variable {K : PySem.W.Frag} {H H' H1 : Hp} {w w1 w' : Wd} {S : Store} {D : Addr} {vs : List V} {ds : List PD}
theorem Stt.hide (st : Stt K H w S) (hD : H D = none) : Stt K (upd H D (.lst [])) (w.hide D) S := by
  have hn := st.fresh hD
  have far : Mono H w (upd H D (.lst [])) (w.hide D) := ⟨fun a o h ho => ⟨same_new hD a o h, ho.1, fun hm => by
    rcases List.mem_cons.mp hm with e | e
    · subst e; rw [hD] at h; cases h
    · exact ho.2 e⟩⟩
  refine ⟨st.nd, st.len, fun n a es h1 h2 => ?_, fun a ha => ?_⟩
  · obtain ⟨ws, q1, q2⟩ := st.cel n a es h1 h2
    exact ⟨ws, same_new hD _ _ q1, q2.mono far⟩
  · rcases List.mem_cons.mp ha with e | e
    · subst e; exact ⟨hn.1, by rw [upd_same]; exact Option.some_ne_none _⟩
    · refine ⟨(st.hid a e).1, ?_⟩
      rw [upd_ne (fun e2 => by subst e2; exact (st.hid _ e).2 hD)]
      exact (st.hid a e).2
theorem hide_mono : Mono H ⟨w.c, D :: w.z⟩ H w := ⟨fun a o h ho => ⟨h, ho.1, fun hm => ho.2 (List.mem_cons_of_mem _ hm)⟩⟩
theorem Stt.grow (st : Stt K H (w.hide D) S) (f : FzA K H (w.hide D) vs ds) : Stt K (upd H D (.lst vs)) (w.hide D) S ∧ Ext H (w.hide D) H (w.hide D) ∧ Far H (w.hide D) (upd H D (.lst vs)) (w.hide D) := by
  have far : Mono H (w.hide D) (upd H D (.lst vs)) (w.hide D) := ⟨fun a o h ho => ⟨by rw [upd_ne (fun e => ho.2 (by rw [e]; exact List.mem_cons_self))]; exact h, ho⟩⟩
  refine ⟨⟨st.nd, st.len, fun n a es h1 h2 => ?_, fun a ha => ⟨(st.hid a ha).1, ?_⟩⟩, .refl _ _, far, [], by simp⟩
  · obtain ⟨ws, q1, q2⟩ := st.cel n a es h1 h2
    refine ⟨ws, ?_, q2.mono far⟩
    rw [upd_ne (fun e => ?_)]
    · exact q1
    · subst e
      exact (st.hid a List.mem_cons_self).1 (List.mem_of_getElem? h1)
  · by_cases e : a = D
    · subst e; rw [upd_same]; exact Option.some_ne_none _
    · rw [upd_ne e]; exact (st.hid a ha).2
theorem Stt.show_ (st : Stt K H (w.hide D) S) : Stt K H w S :=
  ⟨st.nd, st.len, fun n a es h1 h2 => let ⟨ws, q1, q2⟩ := st.cel n a es h1 h2; ⟨ws, q1, q2.mono hide_mono⟩, fun a ha => st.hid a (List.mem_cons_of_mem _ ha)⟩
theorem Stt.showC (st : Stt K H (w.hide D) S) (hD : H D = some (.lst vs)) (f : FzA K H (w.hide D) vs ds) (hz : D ∉ w.z) : Stt K H ⟨w.c ++ [D], w.z⟩ (S ++ [ds]) := by
  have hn := (st.hid D List.mem_cons_self).1
  have mo : Mono H (w.hide D) H ⟨w.c ++ [D], w.z⟩ := ⟨fun a o h ho => ⟨h, fun hm => by
    rcases List.mem_append.mp hm with e | e
    · exact ho.1 e
    · rw [List.mem_singleton] at e; exact ho.2 (by rw [e]; exact List.mem_cons_self), fun hm => ho.2 (List.mem_cons_of_mem _ hm)⟩⟩
  refine ⟨?_, by rw [List.length_append, List.length_append, st.len]; rfl, fun n a es h1 h2 => ?_, fun b hb => ⟨fun hm => ?_, (st.hid b (List.mem_cons_of_mem _ hb)).2⟩⟩
  · rw [List.nodup_append]
    refine ⟨st.nd, by simp, fun a ha b hb e => ?_⟩
    rw [List.mem_singleton] at hb
    subst hb; subst e
    exact hn ha
  · by_cases hl : n < w.c.length
    · rw [List.getElem?_append_left hl] at h1
      rw [List.getElem?_append_left (by rw [← st.len]; exact hl)] at h2
      obtain ⟨ws, q1, q2⟩ := st.cel n a es h1 h2
      exact ⟨ws, q1, q2.mono mo⟩
    · rw [List.getElem?_append_right (Nat.le_of_not_lt hl)] at h1
      rw [List.getElem?_append_right (by rw [← st.len]; exact Nat.le_of_not_lt hl), ← st.len] at h2
      cases hm : n - w.c.length with
      | zero =>
        rw [hm] at h1 h2
        simp at h1 h2
        subst h1; subst h2
        exact ⟨vs, hD, f.mono mo⟩
      | succ m => rw [hm] at h1; simp at h1
  · rcases List.mem_append.mp hm with z | z
    · exact (st.hid b (List.mem_cons_of_mem _ hb)).1 z
    · rw [List.mem_singleton] at z; subst z
      exact hz hb
end
/-- what holds ahead of a turn -/
structure Turn (K : PySem.W.Frag) (H1 : Hp) (w1 : Wd) (D : Addr) (σ0 : L2.St) (δ0 : DEnv) (H : Hp) (acc : List PD) (S : Store) : Prop where
  ex : ∃ c' vs, EnvR K H ⟨c', D :: w1.z⟩ σ0 δ0 ∧ Stt K H ⟨c', D :: w1.z⟩ S ∧ H D = some (.lst vs) ∧ FzA K H ⟨c', D :: w1.z⟩ vs acc ∧ Ext H1 w1 H ⟨c', w1.z⟩
theorem far_hide {H1 H : Hp} {w1 : Wd} {c' : List Addr} {D : Addr} (hD : H1 D = none) (e : Ext H1 w1 H ⟨c', w1.z⟩) : Far H1 w1 H ⟨c', D :: w1.z⟩ :=
  ⟨⟨fun a o h ho => by
    obtain ⟨q1, q2, q3⟩ := e.mono.keep a o h ho
    refine ⟨q1, q2, fun hm => ?_⟩
    rcases List.mem_cons.mp hm with z | z
    · subst z; rw [hD] at h; cases h
    · exact q3 z⟩, e.pre⟩
theorem ext_shown {H H' : Hp} {c c' z z' : List Addr} {D : Addr} (e : Ext H ⟨c, z⟩ H' ⟨c', z⟩) : Ext H ⟨c, z'⟩ H' ⟨c', z'⟩ := ⟨e.keep, e.new, e.pre, rfl⟩
section
variable {X : Cx} {pos : Pos} {tg iter elt : Expr} {fi : DEnv → M Src} {g : D → DEnv → M DEnv} {ft : DEnv → M Bool} {fe : DEnv → M D} {vs : List Nat}
abbrev W0 : WX := fun _ _ _ _ => False
theorem lc_turns {K : PySem.W.Frag} {G : Str → Option Value} {J : It} {src : Src} {H1 : Hp} {w1 : Wd} {D : Addr} {σ0 : L2.St} {δ0 : DEnv} {tt : TT} {te : TE} {gg : TG} {σ : L2.St}
    (hD : H1 D = none) (it : ItD K H1 w1 J src) (hσ : σ0 = L2.wipe σ vs) (kg : ∀ v σ H Q, tV K vs g v σ H Q → gg v σ H Q) (kt : ∀ σ H Q, tG G K W0 RpB ft σ H Q → tt σ H Q) (ke : ∀ σ H Q, tG G K W0 (RpD K) fe σ H Q → te σ H Q)
    {Fin : Hp → Prop} {acc0 : List PD} {S0 : Store} {res : List PD} {Sr : Store} (hr : lcLoop src g ft fe δ0 src.ds acc0 S0 = .ok res Sr) (t0 : Turn K H1 w1 D σ0 δ0 (upd H1 D (.lst [])) acc0 S0) (fin : ∀ H, Turn K H1 w1 D σ0 δ0 H res Sr → Fin H) :
    ∃ W : Nat → Nat → Hp → Prop, (∃ m, W 0 m (upd H1 D (.lst []))) ∧ ∀ i m H, W i m H →
      (J.stop i H ∧ Fin H) ∨ (J.go i H ∧ ∃ Nx : Hp → Prop, (∀ H', Nx H' → ∃ m', m' < m ∧ W (i + 1) m' H') ∧ ∀ x H', J.yld i H x H' → gg x (L2.wipe σ vs) H' fun σ2 H2 => L2.wipe σ2 vs = L2.wipe σ vs ∧ tt σ2 H2 fun b H3 =>
        if b = true then te σ2 H3 fun y H4 => ∃ acc, H4 D = some (.lst acc) ∧ acc.length < sizeLine ∧ Nx (upd H4 D (.lst (acc ++ [y]))) else Nx H3) := by
  refine ⟨fun i m H => i + m = src.ds.length ∧ ∃ acc S, Turn K H1 w1 D σ0 δ0 H acc S ∧ lcLoop src g ft fe δ0 (src.ds.drop i) acc S = .ok res Sr, ⟨src.ds.length, by simp, acc0, S0, t0, hr⟩, fun i m H ⟨him, acc, S, t, hl⟩ => ?_⟩
  obtain ⟨c', ws, env, st, hH, fa, ex⟩ := t.ex
  have far := far_hide hD ex
  by_cases hm : m = 0
  · subst hm
    have hd : src.ds.drop i = [] := List.drop_eq_nil_of_le (by omega)
    rw [hd] at hl
    simp only [lcLoop] at hl
    split at hl
    · rename_i ok
      cases hl
      have q := (it H _ _ far st ok).2
      rw [← him] at q
      exact .inl ⟨q, fin H t⟩
    · cases hl
  · have hi : i < src.ds.length := by omega
    rw [List.drop_eq_getElem_cons hi] at hl
    simp only [lcLoop] at hl
    split at hl
    · rename_i ok
      obtain ⟨go, yl⟩ := (it H _ S far st ok).1 i src.ds[i] (List.getElem?_eq_getElem hi)
      refine .inr ⟨go, fun H2 => (i + 1) + (m - 1) = src.ds.length ∧ ∃ acc S, Turn K H1 w1 D σ0 δ0 H2 acc S ∧ lcLoop src g ft fe δ0 (src.ds.drop (i + 1)) acc S = .ok res Sr, fun H2 q => ⟨m - 1, by omega, q⟩, fun x H2 hy => ?_⟩
      obtain ⟨sm, fz⟩ := yl x H2 hy
      have e2 : Ext H ⟨c', D :: w1.z⟩ H2 ⟨c', D :: w1.z⟩ := .same sm
      refine kg _ _ _ _ ⟨δ0, _, S, .dat src.ds[i], hσ ▸ env.mono e2, st.same sm, fz, ?_⟩
      obtain ⟨δ1, S1, e1, hl⟩ := okB_inv hl
      obtain ⟨k, S2, e3, hl⟩ := okB_inv hl
      rw [e1]
      refine fun σ3 H3 w3 x3 st3 env3 k3 => ⟨by rw [k3]; exact wipe_wipe (fun _ h => h), kt _ _ _ ⟨δ1, w3, S1, env3, st3, okOnly e3 fun b H4 w4 x4 st4 rb => ?_⟩⟩
      cases rb
      have x24 := (e2.trans x3).trans x4
      have wz : w4 = ⟨w4.c, D :: w1.z⟩ := by
        have := x24.hid
        cases w4; simp at this; subst this; rfl
      cases k with
      | true =>
        rw [if_pos rfl] at hl ⊢
        obtain ⟨d, S3, e5, hl⟩ := okB_inv hl
        obtain ⟨q, S3', e6, hl⟩ := bind_ok_inv hl
        cases d with
        | ref n => cases e6
        | dat p =>
          cases e6
          refine ke _ _ _ ⟨δ1, w4, S2, env3.mono x4, st4, okOnly e5 fun y H5 w5 x5 st5 ry => ?_⟩
          split at hl
          · rename_i hsz
            have x25 := x24.trans x5
            have wz5 : w5 = ⟨w5.c, D :: w1.z⟩ := by
              have := x25.hid
              cases w5; simp at this; subst this; rfl
            have hD5 : H5 D = some (.lst ws) := x25.keep D _ hH (st.hid D List.mem_cons_self).1
            have fa5 : FzA K H5 w5 (ws ++ [y]) (acc ++ [q]) := (fa.mono x25.mono).append (.cons ry .nil)
            rw [wz5] at fa5 st5 x25
            obtain ⟨gst, _, gfar⟩ := Stt.grow (w := ⟨w5.c, w1.z⟩) st5 fa5
            refine ⟨ws, hD5, by rw [fa.length]; exact hsz, by omega, acc ++ [q], S3, ⟨w5.c, ws ++ [y], (env.mono x25).far gfar, gst, upd_same, fa5.mono gfar.mono, ?_⟩, hl⟩
            have x15 := ex.trans (ext_shown (D := D) (z' := w1.z) x25)
            exact ⟨fun a o h ha => by rw [upd_ne (fun e => by subst e; rw [hD] at h; cases h)]; exact x15.keep a o h ha, x15.new, x15.pre, rfl⟩
          · cases hl
      | false =>
        rw [if_neg (by decide)] at hl ⊢
        rw [wz] at x24 st4
        refine ⟨by omega, acc, S2, ⟨w4.c, ws, env.mono x24, st4, x24.keep D _ hH (st.hid D List.mem_cons_self).1, fa.mono x24.mono, ex.trans (ext_shown (D := D) (z' := w1.z) x24)⟩, hl⟩
    · cases hl
/-- a clause's tests do ft -/
structure STs (X : Cx) (W : WX) (ifs : List Expr) (f : DEnv → M Bool) : Prop where
  pt : PTs X ifs (tG X.mg X.K W RpB f)
def yesT : DEnv → M Bool := fun _ S => .ok true S
theorem PTs.imp {ifs : List Expr} {t t' : TT} (h : PTs X ifs t) (k : ∀ σ H Q, t' σ H Q → t σ H Q) : PTs X ifs t' := ⟨fun pins s σ H Q I q => h.run pins s σ H Q I (k _ _ _ q)⟩
theorem sts_nil {W : WX} : STs X W [] yesT := ⟨PTs.imp pts_nil fun σ H Q ⟨δ, w, S, env, st, h⟩ => h.ok (.refl _ _) st rfl⟩
theorem sts_one {W : WX} {c : Expr} (h : ST X W c ft) : STs X W [c] ft := ⟨pts_one h.pt⟩
variable {W : WX} {scope : Scope} {own : List (Str × Nat)}
theorem lc_of {σ : L2.St} {H : Hp} {Q : VK} {f : List PD → Store → R D} (hf : ∀ ps S d S', f ps S = .ok d S' → (d = .dat (.list ps) ∧ S' = S) ∨ (d = .ref S.length ∧ S' = S ++ [ps])) (hf2 : ∀ ps S, ∃ d S', f ps S = .ok d S')
    (h : tG X.mg X.K W (RpD X.K) (fun δ S => (lcA fi g ft fe vs δ S).bind f) σ H Q) :
    tLc (fun σ H R => tG X.mg X.K W (fun H w J src => ItD X.K H w J src) fi σ H R) (tV X.K vs g) (tG X.mg X.K W0 RpB ft) (tG X.mg X.K W0 (RpD X.K) fe) vs σ H Q := by
  obtain ⟨δ, w, S, env, st, h⟩ := h
  have h : PostG X.mg X.K W σ (RpD X.K) H w (((fi δ S).bind fun src S1 => lcLoop src g ft fe (wipeD δ vs) src.ds [] S1).bind f) Q := h
  refine ⟨δ, w, S, env, st, ?_⟩
  cases ei : fi δ S with
  | bad => rw [ei] at h; exact h.elim
  | exc xn S1 => rw [ei] at h; exact h
  | ok src S1 =>
    rw [ei] at h
    intro J H1 w1 e1 st1 it D hD
    have h : PostG X.mg X.K W σ (RpD X.K) H w ((lcLoop src g ft fe (wipeD δ vs) src.ds [] S1).bind f) Q := h
    cases el : lcLoop src g ft fe (wipeD δ vs) src.ds [] S1 with
    | bad => rw [el] at h; exact h.elim
    | exc xn S2 => exact absurd el (lcLoop_noexc _ _ _)
    | ok res Sr =>
      rw [el] at h
      have mo : Far H1 w1 (upd H1 D (.lst [])) (w1.hide D) := ⟨⟨fun a o h ho => ⟨same_new hD a o h, ho.1, fun hm => by
        rcases List.mem_cons.mp hm with e | e
        · subst e; rw [hD] at h; cases h
        · exact ho.2 e⟩⟩, [], by simp⟩
      refine lc_turns hD it rfl (fun _ _ _ _ z => z) (fun _ _ _ z => z) (fun _ _ _ z => z) el ⟨w1.c, [], ((env.mono e1).wipe vs).far mo, st1.hide hD, upd_same, .nil, ⟨fun a o h _ => same_new hD a o h, fun _ h => .inl h, ⟨[], by simp⟩, rfl⟩⟩ fun H3 t => ?_
      obtain ⟨c', ws, env3, st3, hD3, fa, ex⟩ := t.ex
      have hz : D ∉ w1.z := (st1.fresh hD).2
      have hc : D ∉ c' := (st3.hid D List.mem_cons_self).1
      have h2 : PostG X.mg X.K W σ (RpD X.K) H w (f res Sr) Q := h
      obtain ⟨d, S', ef⟩ := hf2 res Sr
      rw [ef] at h2
      rcases hf _ _ _ _ ef with ⟨rfl, rfl⟩ | ⟨rfl, rfl⟩
      · exact h2 _ H3 ⟨c', w1.z⟩ (e1.trans ex) (Stt.show_ (w := ⟨c', w1.z⟩) st3) (.lst (.inl ⟨.inl hD3, hc, hz⟩) (fa.mono (hide_mono (w := ⟨c', w1.z⟩))))
      · have x2 : Ext H1 w1 H3 ⟨c' ++ [D], w1.z⟩ := ⟨ex.keep, fun a ha => by
          rcases List.mem_append.mp ha with z | z
          · exact ex.new a z
          · rw [List.mem_singleton] at z; subst z; exact .inr hD, by
          obtain ⟨t, et⟩ := ex.pre
          exact ⟨t ++ [D], by rw [← List.append_assoc, ← et]⟩, rfl⟩
        refine h2 _ H3 ⟨c' ++ [D], w1.z⟩ (e1.trans x2) (Stt.showC (w := ⟨c', w1.z⟩) st3 hD3 fa hz) ⟨D, ?_, rfl⟩
        show (c' ++ [D])[Sr.length]? = some D
        rw [← st3.len]; simp
section
variable (hc : X.calm = true) (hN : X.N.Nodup) (hi : SI X W tg iter fi) (ok : BlkOk X.N X.env.scope scope own)
    (hg : ∀ (s : Shared) (H : Hp) (C : Addr) (cl : List (Str × Addr)) (fp : List Addr), SV (X.blk s H scope (compEnvC scope cl C X.env) fp) (own.map (·.2)) tg g) {ifs : List Expr}
    (ht : ∀ (s : Shared) (H : Hp) (C : Addr) (cl : List (Str × Addr)) (fp : List Addr), STs (X.blk s H scope (compEnvC scope cl C X.env) fp) W0 ifs ft)
    (he : ∀ (s : Shared) (H : Hp) (C : Addr) (cl : List (Str × Addr)) (fp : List Addr), SE (X.blk s H scope (compEnvC scope cl C X.env) fp) W0 elt fe) (hs : ∀ x, foldedSetIterable iter X.env x = pure x)
include hc hN hi ok hg ht he hs
theorem lcA_of : PE X (.ListComp elt [⟨tg, iter, ifs, 0⟩] scope pos) (tLc (fun σ H R => tG X.mg X.K W (fun H w J src => ItD X.K H w J src) fi σ H R) (tV X.K (own.map (·.2)) g) (tG X.mg X.K W0 RpB ft) (tG X.mg X.K W0 (RpD X.K) fe) (own.map (·.2))) :=
  pe_lc hc hN hi.pi ok (fun s H C cl fp => (hg s H C cl fp).pg) (fun s H C cl fp => (ht s H C cl fp).pt) (fun s H C cl fp => (he s H C cl fp).pe) hs
theorem se_lc : SE X W (.ListComp elt [⟨tg, iter, ifs, 0⟩] scope pos) (lcE fi g ft fe (own.map (·.2))) :=
  ⟨PE.imp (lcA_of hc hN hi ok hg ht he hs) fun σ H Q h => lc_of (f := fun ps S1 => .ok (.dat (.list ps)) S1) (fun _ _ _ _ e => by cases e; exact .inl ⟨rfl, rfl⟩) (fun _ _ => ⟨_, _, rfl⟩) h⟩
theorem se_lcC : SE X W (.ListComp elt [⟨tg, iter, ifs, 0⟩] scope pos) (lcC fi g ft fe (own.map (·.2))) :=
  ⟨PE.imp (lcA_of hc hN hi ok hg ht he hs) fun σ H Q h => lc_of (f := fun ps S1 => .ok (.ref S1.length) (S1 ++ [ps])) (fun _ _ _ _ e => by cases e; exact .inr ⟨rfl, rfl⟩) (fun _ _ => ⟨_, _, rfl⟩) h⟩
/-- name = [..] on one line -/
theorem ss_setLc {i : Nat} {y : Str} {py spos : Pos} {f : List PD → Store → R D} (hf : ∀ ps S d S', f ps S = .ok d S' → (d = .dat (.list ps) ∧ S' = S) ∨ (d = .ref S.length ∧ S' = S ++ [ps])) (hf2 : ∀ ps S, ∃ d S', f ps S = .ok d S')
    (hy : X.N[i]? = some y) (hyl : X.env.scope.names.lookup y = some .local) (hsw : swapsWith (.ListComp elt [⟨tg, iter, ifs, 0⟩] scope pos) (some (.Name y py)) spos.line X.env = pure true) :
    SS X W (.Assign [.Name y py] (.ListComp elt [⟨tg, iter, ifs, 0⟩] scope pos) spos) (asgS (fun δ S => (lcA fi g ft fe (own.map (·.2)) δ S).bind f) (nmT i)) :=
  ⟨PS.imp (ps_setLc hc hN hy hyl hsw hi.pi ok (fun s H C cl fp => (hg s H C cl fp).pg) (fun s H C cl fp => (ht s H C cl fp).pt) (fun s H C cl fp => (he s H C cl fp).pe) hs) fun Dn σ H ⟨δ, w, S, env, st, h⟩ =>
    lc_of hf hf2 ⟨δ, w, S, env, st, PostS.bind h env fun v H' w' d S' e' st' rv h => h _ H' w' (.refl _ _) st' ((env.mono e').set i rv)⟩⟩
theorem ss_lcE {i : Nat} {y : Str} {py spos : Pos} (hy : X.N[i]? = some y) (hyl : X.env.scope.names.lookup y = some .local) (hsw : swapsWith (.ListComp elt [⟨tg, iter, ifs, 0⟩] scope pos) (some (.Name y py)) spos.line X.env = pure true) :
    SS X W (.Assign [.Name y py] (.ListComp elt [⟨tg, iter, ifs, 0⟩] scope pos) spos) (asgS (lcE fi g ft fe (own.map (·.2))) (nmT i)) :=
  ss_setLc hc hN hi ok hg ht he hs (f := fun ps S1 => .ok (.dat (.list ps)) S1) (fun _ _ _ _ e => by cases e; exact .inl ⟨rfl, rfl⟩) (fun _ _ => ⟨_, _, rfl⟩) hy hyl hsw
theorem ss_lcC {i : Nat} {y : Str} {py spos : Pos} (hy : X.N[i]? = some y) (hyl : X.env.scope.names.lookup y = some .local) (hsw : swapsWith (.ListComp elt [⟨tg, iter, ifs, 0⟩] scope pos) (some (.Name y py)) spos.line X.env = pure true) :
    SS X W (.Assign [.Name y py] (.ListComp elt [⟨tg, iter, ifs, 0⟩] scope pos) spos) (asgS (lcC fi g ft fe (own.map (·.2))) (nmT i)) :=
  ss_setLc hc hN hi ok hg ht he hs (f := fun ps S1 => .ok (.ref S1.length) (S1 ++ [ps])) (fun _ _ _ _ e => by cases e; exact .inr ⟨rfl, rfl⟩) (fun _ _ => ⟨_, _, rfl⟩) hy hyl hsw
end
end
end DL

set_option Elab.async false
set_option linter.all false
set_option maxRecDepth 100000
set_option maxHeartbeats 4000000
/-! DLl: products, methods, pairs of targets, zip, enumerate by data. -/
namespace DL
open PySem PySem.Spec PyProof.Rows L2

/-! ### products -/
def repS (z : Str) (k : Nat) : Str := ⟨(List.replicate k z.cps).foldl (· ++ ·) #[]⟩
def mulP : PD → PD → Option PD
  | .int i, .int j => if i.natAbs.log2 + j.natAbs.log2 < 1000000 then some (.int (i * j)) else none
  | .list i, .int j => if j < 100000 ∧ -100000 < j ∧ i.length * j.toNat ≤ sizeLine then some (.list (List.replicate j.toNat i).flatten) else none
  | .tuple i, .int j => if i.length ≠ 0 ∧ 2 ≤ j ∧ j ≤ 1000 ∧ i.length ≤ 1000 then some (.tuple (List.replicate j.toNat i).flatten) else none
  | .str z, .int j => if 2 ≤ j ∧ j ≤ 1000 ∧ 0 < z.length ∧ z.length ≤ 1000 then some (.str (repS z j.toNat)) else none
  | _, _ => none
theorem foldl_size (c : Array Nat) : ∀ (k : Nat) (acc : Array Nat), ((List.replicate k c).foldl (· ++ ·) acc).size = acc.size + k * c.size
  | 0, acc => by simp
  | k + 1, acc => by
    rw [List.replicate_succ, List.foldl_cons, foldl_size c k, Array.size_append, Nat.succ_mul]
    omega
theorem repS_size (z : Str) (k : Nat) : ((List.replicate k z.cps).foldl (· ++ ·) #[]).size = k * z.cps.size := by
  rw [foldl_size]
  simp
section
variable {X : Cx}
theorem op_repL : OpR X (binaryOp .Mult) (fun x y H Q => ∃ l k xs, x = V.ref l ∧ y = V.int k ∧ RdL X.K H l xs ∧ -100000 < k ∧ k < 100000 ∧ xs.length * k.toNat ≤ sizeLine ∧ ∀ p, H p = none → Q (.ref p) (upd H p (.lst (List.replicate k.toNat xs).flatten))) := by
  intro pins s σ H x y v u Q I rx ry h
  obtain ⟨l, k, xs, rfl, rfl, hH, h1, h2, hz, q⟩ := h
  cases rx; obtain ⟨t, rfl⟩ := ry
  obtain ⟨z, its, n, r, e⟩ := hH.ok I
  have hl := r.length
  have sz : its.toArray.size * k.toNat ≤ sizeLine := by rw [List.size_toArray, ← hl]; exact hz
  have c0 : ¬ (!Builtin.List.listFitsIndex k) = true := by rw [fitsIndex_both (by omega) (by omega)]; decide
  have c1 : ¬ its.toArray.size * k.toNat > (2 ^ 63 - 1) / 8 := by
    have z0 := sizeLine_eq
    rw [z0] at sz
    omega
  have c2 : ¬ Builtin.List.listTooLong (its.toArray.size * k.toNat) = true := by rw [notLongL sz]; decide
  have hn : List.foldl (fun x1 x2 => x1 ++ x2) #[] (List.replicate (if its.toArray.isEmpty = true then 0 else k.toNat) its.toArray) = (List.replicate k.toNat its).flatten.toArray := by
    cases its with
    | nil => simp
    | cons a b =>
      rw [if_neg (by simp)]
      have z0 := foldl_rep (a :: b) k.toNat []
      rwa [List.nil_append] at z0
  refine wpAny_binaryOp_repeat_ref (U := "int") (T := "list") (by decide) ⟨_, e, rfl⟩ (fun s' => typeIs_int s' k t) noFill_list_mul F.fills_int_mul F.slot_int_rmul repeat_list F.slot_int_index.lookup ?_
  refine call_meets F.slot_int_rmul (typeIs_int s k t) F.entry_int_rmul (F.args_int_rmul_2 _ _) (int___rmul___int_list k t l its.toArray n) ⟨e, rfl, ⟨_, e, rfl⟩, ?_⟩
  refine call_meets F.slot_list_mul ⟨_, e, rfl⟩ F.entry_list_mul (F.args_list_mul_2 _ _) (AutoListH.list___mul___list_int_3 l its.toArray n k t c0 c1 c2) ⟨e, ?_⟩
  rw [hn]
  exact ⟨.ref _, _, I.lnew (t' := s.toks) (r.rep k.toNat) (by rw [PyProof.Rows.lm_len_rep_flat, Nat.mul_comm]; exact hz), rfl, q _ I.fresh⟩
theorem op_repS : OpR X (binaryOp .Mult) (fun x y H Q => ∃ z k, x = V.str z ∧ y = V.int k ∧ 2 ≤ k ∧ k ≤ 1000 ∧ 0 < z.length ∧ z.length ≤ 1000 ∧ Q (.str (repS z k.toNat)) H) := by
  intro pins s σ H x y v u Q I rx ry h
  obtain ⟨z, k, rfl, rfl, h1, h2, h3, h4, q⟩ := h
  obtain ⟨t, rfl⟩ := rx
  obtain ⟨t', rfl⟩ := ry
  have e1 : ¬ k < 1 := by omega
  have e2 : (k == 1 || z.length == 0) = false := by
    rw [Bool.or_eq_false_iff]
    refine ⟨by rw [beq_eq_false_iff_ne]; omega, by rw [beq_eq_false_iff_ne]; omega⟩
  have hsz : z.length * k.toNat ≤ 1000 * 1000 := Nat.mul_le_mul h4 (by omega)
  refine PySem.P.mul_str (by rw [decide_eq_false (by omega), decide_eq_false (by omega)]; rfl) (fun _ _ => ?_) (fun _ _ => ?_) ?_
  · have m1 : (z.length : Int) * k ≤ 1000 * k := Int.mul_le_mul_of_nonneg_right (by omega) (by omega)
    have m2 : (z.length : Int) ≤ (2 ^ 63 - 1) / k := Int.le_ediv_of_mul_le (by omega) (by omega)
    omega
  · show decide (z.length * k.toNat > sizeLine) = false
    rw [sizeLine_eq]
    exact decide_eq_false (by omega)
  · rw [if_neg e1, e2]
    refine ⟨?_, .str (repS z k.toNat), H, I.tok _, ⟨s.toks, rfl⟩, q⟩
    show ((List.replicate k.toNat z.cps).foldl (· ++ ·) #[]).size ≤ sizeLine
    rw [repS_size, sizeLine_eq]
    have hsz2 : k.toNat * z.cps.size ≤ 1000 * 1000 := Nat.mul_le_mul (by omega) h4
    omega
theorem g_mul : G2 X (binaryOp .Mult) mulP := .mk fun w p q r h => by
  cases p <;> cases q <;> simp only [mulP, reduceCtorEq] at h <;> split at h <;> cases h <;> rename_i hs
  · exact OpR.imp op_mulW fun x y H Q ⟨_, h1, h2, k⟩ => by cases h1.int; cases h2.int; exact ⟨_, _, rfl, rfl, hs, k _ _ (Same.refl _) (.int _)⟩
  · exact OpR.imp op_repS fun x y H Q ⟨_, h1, h2, k⟩ => by cases h1.str; cases h2.int; exact ⟨_, _, rfl, rfl, hs.1, hs.2.1, hs.2.2.1, hs.2.2.2, k _ _ (Same.refl _) (.str _)⟩
  · refine OpR.imp op_repL fun x y H Q ⟨fr, h1, h2, k⟩ => ?_
    obtain ⟨a, xs, rfl, l, f⟩ := h1.list
    cases h2.int
    exact ⟨_, _, xs, rfl, rfl, l, hs.2.1, hs.1, by rw [f.length]; exact hs.2.2, fun p hp => k _ _ (same_new hp) (fz_new fr hp (f.rep _))⟩
  · refine OpR.imp op_repT fun x y H Q ⟨fr, h1, h2, k⟩ => ?_
    obtain ⟨a, xs, rfl, l, f⟩ := h1.tup
    cases h2.int
    exact ⟨_, _, xs, rfl, rfl, l.seq, fun e => hs.1 (by rw [← f.length, e]; rfl), hs.2.1, hs.2.2.1, by rw [f.length]; exact hs.2.2.2, fun p hp => k _ _ (same_new hp) (fz_newT fr hp (f.rep _))⟩
end
/-! ### methods of cells -/
def rM (K : PySem.W.Frag) (g : List PD → List PD → Option (PD × List PD)) : V → List V → Hp → VK → Prop := fun x vs H Q => ∃ l w xs ds ps r ds', x = .ref l ∧ H l = some (.lst xs) ∧ FzA K H w xs ds ∧ FzA K H w vs ps ∧ g ds ps = some (r, ds') ∧
  ∀ v xs', FzA K H w xs' ds' → Fz K H w v r → Q v (upd H l (.lst xs'))
def mtE (fo : DEnv → M D) (fa : DEnv → M (List D)) (g : List PD → List PD → Option (PD × List PD)) : DEnv → M D := fun δ S => (fo δ S).bind fun d S1 => match d with
  | .ref n => (fa δ S1).bind fun as S2 => (opt (dats as) S2).bind fun ps S2 => (opt S2[n]? S2).bind fun ds S2 => (opt (g ds ps) S2).bind fun r S2 => .ok (.dat r.1) (S2.set n r.2)
  | .dat _ => .bad
section
variable {X : Cx} {W : WX} {o e : Expr} {es : List Expr} {name : Str} {apos cpos : Pos} {id : String} {fo : DEnv → M D} {fa : DEnv → M (List D)} {g : List PD → List PD → Option (PD × List PD)}
theorem mt_of {σ : L2.St} {H : Hp} {Q : VK} (h : tG X.mg X.K W (RpD X.K) (mtE fo fa g) σ H Q) : tBM X.K "list" (rM X.K g) (tG X.mg X.K W (RpD X.K) fo) (tG X.mg X.K W (RpA X.K) fa) σ H Q := by
  obtain ⟨δ, w, S, env, st, h⟩ := h
  refine ⟨δ, w, S, env, st, PostG.bind h fun x H1 w1 d S1 e1 st1 rx h => ?_⟩
  cases d with
  | dat p => exact h.elim
  | ref n =>
    obtain ⟨l, hl, rfl⟩ := rx
    obtain ⟨ds1, hds1⟩ : ∃ ds, S1[n]? = some ds := by
      have hlt : n < S1.length := by rw [← st1.len]; exact (List.getElem?_eq_some_iff.mp hl).1
      exact ⟨_, List.getElem?_eq_getElem hlt⟩
    obtain ⟨ws, hw, fw⟩ := st1.cel n l ds1 hl hds1
    refine ⟨.inl ⟨rfl, ws, SqL.of hw⟩, δ, w1, S1, env.mono e1, st1, PostG.bind h fun vs H2 w2 as S2 e2 st2 ra h => ?_⟩
    obtain ⟨ps, hp, h⟩ := h.opt
    obtain ⟨ds, hd, h⟩ := h.opt
    obtain ⟨r, hr, h⟩ := h.opt
    have fp := nowA_fz ra (dats_eq hp)
    have hl2 : w2.c[n]? = some l := by
      obtain ⟨t, q⟩ := e2.pre
      rw [q, List.getElem?_append_left (List.getElem?_eq_some_iff.mp hl).1]; exact hl
    obtain ⟨xs, hx, fx⟩ := st2.cel n l ds hl2 hd
    refine ⟨l, w2, xs, ds, ps, r.1, r.2, rfl, hx, fx, fp, hr, fun v xs' fx' fv => ?_⟩
    obtain ⟨x3, st3⟩ := st2.write hl2 fx'
    exact h.ok x3 st3 (fv.mono x3.mono)
theorem mt_of0 {σ : L2.St} {H : Hp} {Q : VK} (h : tG X.mg X.K W (RpD X.K) (mtE fo nilA g) σ H Q) : tBM0 X.K "list" (rM X.K g) (tG X.mg X.K W (RpD X.K) fo) σ H Q := by
  obtain ⟨δ, w, S, env, st, h⟩ := h
  refine ⟨δ, w, S, env, st, PostG.bind h fun x H1 w1 d S1 e1 st1 rx h => ?_⟩
  cases d with
  | dat p => exact h.elim
  | ref n =>
    obtain ⟨l, hl, rfl⟩ := rx
    have h : PostG X.mg X.K W σ (RpD X.K) H1 w1 ((opt S1[n]? S1).bind fun ds S2 => (opt (g ds []) S2).bind fun r S2 => .ok (.dat r.1) (S2.set n r.2)) Q := h
    obtain ⟨ds, hd, h⟩ := h.opt
    obtain ⟨r, hr, h⟩ := h.opt
    obtain ⟨xs, hx, fx⟩ := st1.cel n l ds hl hd
    refine ⟨.inl ⟨rfl, xs, SqL.of hx⟩, l, w1, xs, ds, [], r.1, r.2, rfl, hx, fx, .nil, hr, fun v xs' fx' fv => ?_⟩
    obtain ⟨x3, st3⟩ := st1.write hl fx'
    exact h.ok x3 st3 (fv.mono x3.mono)
theorem se_mt (slot : Slot "list" name id) (hty : typeOf (.builtin id) = pure (.type "method_descriptor")) (hm : MtR X id (rM X.K g)) (ho : SE X W o fo) (ha : SA X W (e :: es) fa)
    (hbase : attributeBase o name X.env (eval o X.env) = eval o X.env)
    (hfew : ((backTo cpos (starEach (e :: es) X.env)).all (fun x => !x.1) && (backToKw cpos (keywordEach [] X.env)).all (fun x => x.1.isSome)
      && decide ((e :: es).length + ([] : List Keyword).length + (if ([] : List Keyword).isEmpty then 0 else 1) < 30)) = true)
    (hline : (apos.endLine == cpos.line) = true) (hs : starEach (e :: es) X.env = (false, eval e X.env) :: starEach es X.env) (hplain : (backTo cpos (starEach es X.env)).any (·.1) = false) :
    SE X W (.Call (.Attribute o name apos) (e :: es) [] cpos) (mtE fo fa g) :=
  ⟨PE.imp (pe_bm F.plainAttrs_list slot hty hm ho.pe ha.pa hbase hfew hline hs hplain) fun σ H Q h => mt_of h⟩
theorem se_mt0 (slot : Slot "list" name id) (hty : typeOf (.builtin id) = pure (.type "method_descriptor")) (hm : MtR X id (rM X.K g)) (ho : SE X W o fo)
    (hbase : attributeBase o name X.env (eval o X.env) = eval o X.env) (hline : (apos.endLine == cpos.line) = true) : SE X W (.Call (.Attribute o name apos) [] [] cpos) (mtE fo nilA g) :=
  ⟨PE.imp (pe_bm0 F.plainAttrs_list slot hty hm ho.pe hbase hline) fun σ H Q h => mt_of0 h⟩
def appP : List PD → List PD → Option (PD × List PD)
  | ds, [p] => if ds.length < sizeLine then some (.none, ds ++ [p]) else none
  | _, _ => none
def popP : List PD → List PD → Option (PD × List PD)
  | ds, [] => (ds[ds.length - 1]?).map fun p => (p, ds.dropLast)
  | ds, [.int i] => if -(2 ^ 63) ≤ i ∧ i < 2 ^ 63 then (seqIndex? i ds.length).bind fun k => (ds[k]?).map fun p => (p, ds.eraseIdx k) else none
  | _, _ => none
def insP : List PD → List PD → Option (PD × List PD)
  | ds, [.int i, p] => if ds.length < sizeLine ∧ 0 ≤ i ∧ i < 2 ^ 63 then some (.none, ds.take i.toNat ++ [p] ++ ds.drop i.toNat) else none
  | _, _ => none
def revP : List PD → List PD → Option (PD × List PD)
  | ds, [] => some (.none, ds.reverse)
  | _, _ => none
theorem MtR.imp {r r' : V → List V → Hp → VK → Prop} (h : MtR X id r) (k : ∀ x xs H Q, r' x xs H Q → r x xs H Q) : MtR X id r' := fun pins s σ H x xs v us Q I rx rs q => h pins s σ H x xs v us Q I rx rs (k _ _ _ _ q)
theorem FzA.dropLast {K : PySem.W.Frag} {H : Hp} {w : Wd} {vs : List V} {ds : List PD} (h : FzA K H w vs ds) : FzA K H w vs.dropLast ds.dropLast := by
  rw [List.dropLast_eq_take, List.dropLast_eq_take, h.length]
  exact h.take _
theorem m_app : MtR X "list.append" (rM X.K appP) := by
  refine MtR.imp mt_append fun x vs H Q ⟨l, w, xs, ds, ps, r, ds', e1, hx, fx, fp, hg, k⟩ => ?_
  unfold appP at hg
  split at hg
  · split at hg <;> cases hg
    rename_i hz
    cases fp with
    | cons a b =>
      cases b
      exact ⟨l, xs, _, e1, rfl, hx, by rw [fx.length]; exact hz, k _ _ (fx.append (.cons a .nil)) .non⟩
  · cases hg
theorem m_pop : MtR X "list.pop" (rM X.K popP) := by
  intro pins s σ H x vs v us Q I rx rs ⟨l, w, xs, ds, ps, r, ds', e1, hx, fx, fp, hg, k⟩
  unfold popP at hg
  split at hg
  · cases fp
    rename_i ds0
    cases hp : ds[ds.length - 1]? with
    | none => rw [hp] at hg; cases hg
    | some p =>
      rw [hp] at hg; cases hg
      obtain ⟨y, hy, fy⟩ := fx.get' hp
      exact mt_pop pins s σ H x [] v us Q I rx rs ⟨l, xs, y, e1, rfl, hx, by rw [fx.length]; exact hy, k _ _ fx.dropLast fy⟩
  · split at hg
    · rename_i hz
      cases fp with
      | cons a b =>
        cases b; cases a
        rename_i i
        cases hk : seqIndex? i ds.length with
        | none => rw [hk] at hg; cases hg
        | some j =>
          rw [hk] at hg
          have hg : (ds[j]?).map (fun p => (p, ds.eraseIdx j)) = some (r, ds') := hg
          cases hp : ds[j]? with
          | none => rw [hp] at hg; cases hg
          | some p =>
            rw [hp] at hg; cases hg
            obtain ⟨y, hy, fy⟩ := fx.get' hp
            exact mt_popAt pins s σ H x _ v us Q I rx rs ⟨l, xs, i, j, y, e1, rfl, hx, hz.1, hz.2, by rw [fx.length]; exact hk, hy, k _ _ (fx.eraseIdx j) fy⟩
    · cases hg
  · cases hg
theorem m_ins : MtR X "list.insert" (rM X.K insP) := by
  refine MtR.imp mt_insert fun x vs H Q ⟨l, w, xs, ds, ps, r, ds', e1, hx, fx, fp, hg, k⟩ => ?_
  unfold insP at hg
  split at hg
  · split at hg <;> cases hg
    rename_i hz
    cases fp with
    | cons a b =>
      cases b with
      | cons c d =>
        cases d; cases a
        exact ⟨l, xs, _, _, e1, rfl, hx, by rw [fx.length]; exact hz.1, hz.2.1, hz.2.2, k _ _ (((fx.take _).append (.cons c .nil)).append (fx.drop _)) .non⟩
  · cases hg
theorem m_rev : MtR X "list.reverse" (rM X.K revP) := by
  refine MtR.imp mt_reverse fun x vs H Q ⟨l, w, xs, ds, ps, r, ds', e1, hx, fx, fp, hg, k⟩ => ?_
  unfold revP at hg
  split at hg
  · cases hg
    cases fp
    exact ⟨l, xs, e1, rfl, hx, k _ _ fx.reverse .non⟩
  · cases hg
end
/-! ### methods of texts -/
def rN (K : PySem.W.Frag) (g : PD → List PD → Option PD) : V → List V → Hp → VK → Prop := fun x vs H Q => ∃ w p ps r, (∀ a, H a = none → w.out a) ∧ Now K H w x p ∧ NowA K H w vs ps ∧ g p ps = some r ∧ ∀ v H', Same H H' → Fz K H' w v r → Q v H'
def mnE (fo : DEnv → M D) (fa : DEnv → M (List D)) (g : PD → List PD → Option PD) : DEnv → M D := fun δ S => (fo δ S).bind fun d S1 => match d with
  | .dat (.str z) => (fa δ S1).bind fun as S2 => (opt (derefs S2 as) S2).bind fun ps S2 => (opt (g (.str z) ps) S2).bind fun r S2 => .ok (.dat r) S2
  | _ => .bad
section
variable {X : Cx} {W : WX} {o e : Expr} {es : List Expr} {name : Str} {apos cpos : Pos} {id : String} {fo : DEnv → M D} {fa : DEnv → M (List D)} {g : PD → List PD → Option PD}
theorem mn_of {σ : L2.St} {H : Hp} {Q : VK} (h : tG X.mg X.K W (RpD X.K) (mnE fo fa g) σ H Q) : tBM X.K "str" (rN X.K g) (tG X.mg X.K W (RpD X.K) fo) (tG X.mg X.K W (RpA X.K) fa) σ H Q := by
  obtain ⟨δ, w, S, env, st, h⟩ := h
  refine ⟨δ, w, S, env, st, PostG.bind h fun x H1 w1 d S1 e1 st1 rx h => ?_⟩
  split at h
  · cases rx
    rename_i z
    refine ⟨rfl, δ, w1, S1, env.mono e1, st1, PostG.bind h fun vs H2 w2 as S2 e2 st2 ra h => ?_⟩
    obtain ⟨ps, hp, h⟩ := h.opt
    obtain ⟨r, hr, h⟩ := h.opt
    exact ⟨w2, .str z, ps, r, fun a ha => st2.fresh ha, .fz (.str z), NowA.of st2 ra hp, hr, fun v H' sm fz => h.ok (.same sm) (st2.same sm) fz⟩
  · exact h.elim
theorem mn_of0 {σ : L2.St} {H : Hp} {Q : VK} (h : tG X.mg X.K W (RpD X.K) (mnE fo nilA g) σ H Q) : tBM0 X.K "str" (rN X.K g) (tG X.mg X.K W (RpD X.K) fo) σ H Q := by
  obtain ⟨δ, w, S, env, st, h⟩ := h
  refine ⟨δ, w, S, env, st, PostG.bind h fun x H1 w1 d S1 e1 st1 rx h => ?_⟩
  split at h
  · cases rx
    rename_i z
    have h : PostG X.mg X.K W σ (RpD X.K) H1 w1 ((opt (g (.str z) []) S1).bind fun r S2 => .ok (.dat r) S2) Q := h
    obtain ⟨r, hr, h⟩ := h.opt
    exact ⟨rfl, w1, .str z, [], r, fun a ha => st1.fresh ha, .fz (.str z), .nil, hr, fun v H' sm fz => h.ok (.same sm) (st1.same sm) fz⟩
  · exact h.elim
theorem se_mn (slot : Slot "str" name id) (hty : typeOf (.builtin id) = pure (.type "method_descriptor")) (hm : MtR X id (rN X.K g)) (ho : SE X W o fo) (ha : SA X W (e :: es) fa)
    (hbase : attributeBase o name X.env (eval o X.env) = eval o X.env)
    (hfew : ((backTo cpos (starEach (e :: es) X.env)).all (fun x => !x.1) && (backToKw cpos (keywordEach [] X.env)).all (fun x => x.1.isSome)
      && decide ((e :: es).length + ([] : List Keyword).length + (if ([] : List Keyword).isEmpty then 0 else 1) < 30)) = true)
    (hline : (apos.endLine == cpos.line) = true) (hs : starEach (e :: es) X.env = (false, eval e X.env) :: starEach es X.env) (hplain : (backTo cpos (starEach es X.env)).any (·.1) = false) :
    SE X W (.Call (.Attribute o name apos) (e :: es) [] cpos) (mnE fo fa g) :=
  ⟨PE.imp (pe_bm F.plainAttrs_str slot hty hm ho.pe ha.pa hbase hfew hline hs hplain) fun σ H Q h => mn_of h⟩
theorem se_mn0 (slot : Slot "str" name id) (hty : typeOf (.builtin id) = pure (.type "method_descriptor")) (hm : MtR X id (rN X.K g)) (ho : SE X W o fo)
    (hbase : attributeBase o name X.env (eval o X.env) = eval o X.env) (hline : (apos.endLine == cpos.line) = true) : SE X W (.Call (.Attribute o name apos) [] [] cpos) (mnE fo nilA g) :=
  ⟨PE.imp (pe_bm0 F.plainAttrs_str slot hty hm ho.pe hbase hline) fun σ H Q h => mn_of0 h⟩
def joinP : PD → List PD → Option PD
  | .str a, [.list ds] => (strsOf ds).bind fun ys => if (ys.map (·.length)).sum + ys.length * a.length ≤ 16777216 then some (.str (Txt.join a ys)) else none
  | .str a, [.tuple ds] => (strsOf ds).bind fun ys => if (ys.map (·.length)).sum + ys.length * a.length ≤ 16777216 then some (.str (Txt.join a ys)) else none
  | _, _ => none
def splitP : PD → List PD → Option PD
  | .str a, [] => if a.length + 2 ≤ sizeLine then some (.list ((Txt.words a).map PyData.str)) else none
  | .str a, [.str b] => if (b.length == 0) = false ∧ a.length + 2 ≤ sizeLine then some (.list ((Txt.split a b).map PyData.str)) else none
  | _, _ => none
theorem m_join : MtR X "str.join" (rN X.K joinP) := by
  refine MtR.imp mt_join fun x vs H Q ⟨w, p, ps, r, fr, hx, ha, hg, k⟩ => ?_
  unfold joinP at hg
  split at hg
  · rename_i a' ds
    cases hx.str
    obtain ⟨v, rfl, n⟩ := ha.one
    obtain ⟨a, xs, rfl, l, f⟩ := n.list
    cases e : strsOf ds with
    | none => rw [e] at hg; cases hg
    | some ys =>
      rw [e] at hg
      have hg : (if (ys.map (·.length)).sum + ys.length * a'.length ≤ 16777216 then some (PyData.str (Txt.join a' ys)) else none) = some r := hg
      split at hg <;> cases hg
      rename_i hz
      rw [strsOf_eq e] at f
      rw [fzA_str f] at l
      exact ⟨a', a, ys, rfl, rfl, .inl l.seq, hz, k _ _ (Same.refl _) (.str _)⟩
  · rename_i a' ds
    cases hx.str
    obtain ⟨v, rfl, n⟩ := ha.one
    obtain ⟨a, xs, rfl, l, f⟩ := n.tup
    cases e : strsOf ds with
    | none => rw [e] at hg; cases hg
    | some ys =>
      rw [e] at hg
      have hg : (if (ys.map (·.length)).sum + ys.length * a'.length ≤ 16777216 then some (PyData.str (Txt.join a' ys)) else none) = some r := hg
      split at hg <;> cases hg
      rename_i hz
      rw [strsOf_eq e] at f
      rw [fzA_str f] at l
      exact ⟨a', a, ys, rfl, rfl, .inr l.seq, hz, k _ _ (Same.refl _) (.str _)⟩
  · cases hg
theorem m_split : MtR X "str.split" (rN X.K splitP) := by
  intro pins s σ H x vs v us Q I rx rs ⟨w, p, ps, r, fr, hx, ha, hg, k⟩
  unfold splitP at hg
  split at hg
  · split at hg <;> cases hg
    rename_i hz
    cases hx.str
    cases ha
    exact mt_words pins s σ H _ _ v us Q I rx rs ⟨_, rfl, rfl, hz, fun p hp => k _ _ (same_new hp) (fz_new fr hp (fz_strs _))⟩
  · split at hg <;> cases hg
    rename_i hz
    cases hx.str
    obtain ⟨v, rfl, n⟩ := ha.one
    cases n.str
    exact mt_split pins s σ H _ _ _ us Q I rx rs ⟨_, _, rfl, rfl, hz.1, hz.2, fun p hp => k _ _ (same_new hp) (fz_new fr hp (fz_strs _))⟩
  · cases hg
end
/-! ### two names at once -/
section
variable {X : Cx} {W : WX}
theorem ss_par {i j : Nat} {x y : Str} {a b : Expr} {fa : DEnv → M (List D)} {px py pt pos : Pos} {kt k2 pt2} (hc : X.calm = true) (hN : X.N.Nodup) (hi : X.N[i]? = some x) (hj : X.N[j]? = some y) (hij : i ≠ j)
    (hx : X.env.scope.names.lookup x = some .local) (hy : X.env.scope.names.lookup y = some .local) (ha : SA X W [a, b] fa)
    (hw : swappedStores [.Tuple [.Name x px, .Name y py] kt pt] (.Tuple [a, b] k2 pt2) X.env = pure (some [x, y]))
    (hs : swapsWithSole [.Tuple [.Name x px, .Name y py] kt pt] (.Tuple [a, b] k2 pt2) pos.line X.env = pure false) :
    SS X W (.Assign [.Tuple [.Name x px, .Name y py] kt pt] (.Tuple [a, b] k2 pt2) pos) (parS i j fa) :=
  ⟨PS.imp (ps_par hc hN hi hj hij hx hy ha.pa hw hs) fun Dn σ H ⟨δ, w, S, env, st, h⟩ => ⟨δ, w, S, env, st, PostS.bind h env fun vs H1 w1 ds S1 e1 st1 rs h => by
    split at h
    · cases rs with
      | cons r1 rs =>
        cases rs with
        | cons r2 rs =>
          cases rs
          exact ⟨_, _, rfl, h _ H1 w1 (.refl _ _) st1 (((env.mono e1).set i r1).set j r2)⟩
    · exact h.elim⟩⟩
/-! ### zip, enumerate -/
def csD (S : Store) : D → List (Nat × List PD)
  | .ref n => match S[n]? with
    | some ds => [(n, ds)]
    | none => []
  | .dat _ => []
def zipL : List PD → List PD → List PD
  | p :: ps, q :: qs => .tuple [p, q] :: zipL ps qs
  | _, _ => []
def zipV (S : Store) : List D → Option Src
  | [d, d'] => match derefD S d, derefD S d' with
    | some (.list ps), some (.list qs) => some ⟨zipL ps qs, csD S d ++ csD S d'⟩
    | some (.tuple ps), some (.tuple qs) => some ⟨zipL ps qs, []⟩
    | _, _ => none
  | _ => none
def zipI (fa : DEnv → M (List D)) : DEnv → M Src := fun δ S => (fa δ S).bind fun ds S1 => (opt (zipV S1 ds) S1).bind fun src S1 => .ok src S1
theorem zipL_get : ∀ {ps qs : List PD} {i : Nat} {r : PD}, (zipL ps qs)[i]? = some r → ∃ p q, ps[i]? = some p ∧ qs[i]? = some q ∧ r = .tuple [p, q]
  | [], _, _, _, h => by simp [zipL] at h
  | _ :: _, [], _, _, h => by simp [zipL] at h
  | p :: ps, q :: qs, 0, r, h => by simp [zipL] at h; exact ⟨p, q, rfl, rfl, h.symm⟩
  | p :: ps, q :: qs, i + 1, r, h => by
    obtain ⟨p', q', h1, h2, h3⟩ := zipL_get (ps := ps) (qs := qs) (i := i) (r := r) (by simpa [zipL] using h)
    exact ⟨p', q', by simpa using h1, by simpa using h2, h3⟩
theorem zipL_len : ∀ (ps qs : List PD), ps.length ≤ (zipL ps qs).length ∨ qs.length ≤ (zipL ps qs).length
  | [], _ => .inl (by simp)
  | _ :: _, [] => .inr (by simp)
  | p :: ps, q :: qs => by
    rcases zipL_len ps qs with h | h
    · exact .inl (by simp [zipL]; exact h)
    · exact .inr (by simp [zipL]; exact h)
/-- a list that stands for ds as long as its cell, if it is one, does -/
theorem list_at {K : PySem.W.Frag} {H H' : Hp} {w w' : Wd} {S S' : Store} {v : V} {d : D} {ds : List PD} (st : Stt K H w S) (rv : RepD K H w v d) (hd : derefD S d = some (.list ds)) (f : Far H w H' w') (st' : Stt K H' w' S') (ok : ∀ q ∈ csD S d, S'[q.1]? = some q.2) :
    ∃ a xs, v = .ref a ∧ SqL K H' a xs ∧ FzA K H' w' xs ds := by
  cases d with
  | dat p =>
    cases hd
    cases rv with
    | lst l fa => exact ⟨_, _, rfl, (l.mono f.mono).seq, fa.mono f.mono⟩
  | ref n =>
    obtain ⟨a, ha, rfl⟩ := rv
    cases hn : S[n]? with
    | none => simp [derefD, hn] at hd
    | some es =>
      simp [derefD, hn] at hd; subst hd
      have ha' : w'.c[n]? = some a := by
        obtain ⟨t, et⟩ := f.pre
        rw [et, List.getElem?_append_left (List.getElem?_eq_some_iff.mp ha).1]; exact ha
      obtain ⟨vs, k1, k2⟩ := st'.cel n a _ ha' (ok (n, es) (by simp [csD, hn]))
      exact ⟨a, vs, rfl, SqL.of k1, k2⟩
theorem fz_pair {K : PySem.W.Frag} {H : Hp} {w : Wd} {S : Store} (st : Stt K H w S) {T : Addr} {v u : V} {p q : PD} (hT : H T = none) (h1 : Fz K H w v p) (h2 : Fz K H w u q) : Same H (upd H T (.tup [v, u])) ∧ Fz K (upd H T (.tup [v, u])) w (.ref T) (.tuple [p, q]) :=
  ⟨same_new hT, fz_newT (fun a => st.fresh) hT (.cons h1 (.cons h2 .nil))⟩
theorem ref_inj {a b : Addr} (h : V.ref a = V.ref b) : a = b := by cases h; rfl
theorem si_zip {e e2 : Expr} {fa : DEnv → M (List D)} {p pos tpos : Pos} {elts : List Expr} {kk : Nat} (hg : Gl X "zip") (hm : X.mg "zip" = none) (ha : SA X W [e, e2] fa)
    (hs : starEach [e, e2] X.env = (false, eval e X.env) :: starEach [e2] X.env) (hpl : (backTo pos (starEach [e2] X.env)).any (·.1) = false) :
    SI X W (.Tuple elts kk tpos) (.Call (.Name "zip" p) [e, e2] [] pos) (zipI fa) :=
  ⟨PI.imp (RZ.pi_zipA hg hm ha.pa hs hpl) fun σ H R ⟨δ, w, S, env, st, h⟩ => ⟨δ, w, S, env, st, PostG.bind h fun vs H1 w1 ds S1 e1 st1 rs h => by
    obtain ⟨src, hsrc, h⟩ := h.opt
    unfold zipV at hsrc
    split at hsrc
    · rename_i d d'
      cases rs with
      | cons r1 rs =>
        cases rs with
        | cons r2 rs =>
          cases rs
          split at hsrc
          · rename_i ps qs h1 h2
            cases hsrc
            have l1 := fun H' w' S' f st' ok => list_at (H' := H') (w' := w') (S' := S') st1 r1 h1 f st' ok
            have l2 := fun H' w' S' f st' ok => list_at (H' := H') (w' := w') (S' := S') st1 r2 h2 f st' ok
            have own : ∀ d : D, ∀ q ∈ csD S1 d, S1[q.1]? = some q.2 := fun d q hq => by
              cases d with
              | dat p => simp [csD] at hq
              | ref n =>
                unfold csD at hq
                simp only [] at hq
                cases hn : S1[n]? with
                | none => rw [hn] at hq; simp at hq
                | some z => rw [hn] at hq; simp at hq; subst hq; exact hn
            obtain ⟨a, xs, rfl, q1, f1⟩ := l1 H1 w1 S1 (Ext.refl _ _).far st1 (own d)
            obtain ⟨b, ys, rfl, q2, f2⟩ := l2 H1 w1 S1 (Ext.refl _ _).far st1 (own d')
            refine ⟨a, b, xs, ys, rfl, .inl ⟨q1, q2, h.ok (.refl _ _) st1 fun H' w' S' f st' ok => ?_⟩⟩
            obtain ⟨a', xs', ea, k1, g1⟩ := l1 H' w' S' f st' fun q hq => ok q (List.mem_append_left _ hq)
            obtain ⟨b', ys', eb, k2, g2⟩ := l2 H' w' S' f st' fun q hq => ok q (List.mem_append_right _ hq)
            cases ref_inj ea; cases ref_inj eb
            refine ⟨fun i r hr => ?_, xs', ys', k1, k2, ?_⟩
            · obtain ⟨p', q', hp, hq, rfl⟩ := zipL_get hr
              obtain ⟨u1, hu1, fu1⟩ := g1.get' hp
              obtain ⟨u2, hu2, fu2⟩ := g2.get' hq
              refine ⟨⟨xs', ys', u1, u2, k1, k2, hu1, hu2⟩, fun x H'' ⟨T, x1, y1, e1, hT, e2, m1, m2⟩ => ?_⟩
              subst e1; subst e2
              have z1 := m1 xs' k1
              have z2 := m2 ys' k2
              rw [hu1] at z1; cases z1
              rw [hu2] at z2; cases z2
              exact fz_pair st' hT fu1 fu2
            · rw [g1.length, g2.length]; exact zipL_len ps qs
          · rename_i ps qs h1 h2
            cases hsrc
            obtain ⟨a, xs, rfl, q1, f1⟩ := (Now.of st1 r1 h1).tup
            obtain ⟨b, ys, rfl, q2, f2⟩ := (Now.of st1 r2 h2).tup
            refine ⟨a, b, xs, ys, rfl, .inr ⟨q1.seq, q2.seq, h.ok (.refl _ _) st1 fun H' w' S' f st' ok => ?_⟩⟩
            have k1 := (q1.mono f.mono).seq
            have k2 := (q2.mono f.mono).seq
            have g1 := f1.mono f.mono
            have g2 := f2.mono f.mono
            refine ⟨fun i r hr => ?_, xs, ys, k1, k2, ?_⟩
            · obtain ⟨p', q', hp, hq, rfl⟩ := zipL_get hr
              obtain ⟨u1, hu1, fu1⟩ := g1.get' hp
              obtain ⟨u2, hu2, fu2⟩ := g2.get' hq
              refine ⟨⟨xs, ys, u1, u2, k1, k2, hu1, hu2⟩, fun x H'' ⟨T, x1, y1, e1, hT, e2, m1, m2⟩ => ?_⟩
              subst e1; subst e2
              have z1 := m1 xs k1
              have z2 := m2 ys k2
              rw [hu1] at z1; cases z1
              rw [hu2] at z2; cases z2
              exact fz_pair st' hT fu1 fu2
            · rw [g1.length, g2.length]; exact zipL_len ps qs
          · cases hsrc
    · cases hsrc⟩⟩
end
end DL

set_option Elab.async false
set_option linter.all false
set_option maxRecDepth 100000
set_option maxHeartbeats 4000000
/-! DLm: a def as a function by data; the law's call. -/
namespace DL
open PySem PySem.Spec PyProof.Rows L2

/-! ### a def's end: what it made is forgotten, a list that it gives back stands still (or stays a cell) -/
def endD (keep : Bool) (L : Nat) (d : D) (S : Store) : R D := match d with
  | .dat p => .ok (.dat p) (S.take L)
  | .ref n => if n < L then .ok (.ref n) (S.take L) else match S[n]? with
    | some ds => if keep = true then .ok (.ref L) (S.take L ++ [ds]) else .ok (.dat (.list ds)) (S.take L)
    | none => .bad
/-- what stands in a tuple that is given back stands still from then on -/
def endA (L : Nat) (S : Store) : List D → Option (List PD)
  | [] => some []
  | .dat p :: r => (endA L S r).map (p :: ·)
  | .ref n :: r => if n < L then none else match S[n]? with
    | some ds => (endA L S r).map (.list ds :: ·)
    | none => none
def endT (L : Nat) (ds : List D) (S : Store) : R D := match endA L S ds with
  | some ps => .ok (.dat (.tuple ps)) (S.take L)
  | none => .bad
/-- nl names beside the params -/
def fnM (nl : Nat) (keep : Bool) (b : MS) : List D → M D := fun ds S => match b (ds.map some ++ List.replicate nl none) S with
  | .ok (.nx _) S' => .ok (.dat .none) (S'.take S.length)
  | .ok (.ret d) S' => endD keep S.length d S'
  | .ok (.rtT rs) S' => endT S.length rs S'
  | .exc x _ S' => .exc x (S'.take S.length)
  | _ => .bad
section
variable {K : PySem.W.Frag} {H H' : Hp} {w w' : Wd} {S S' : Store}
theorem ext_take (st : Stt K H w S) (e : Ext H w H' w') : w'.c.take S.length = w.c := by
  obtain ⟨t, q⟩ := e.pre
  rw [q, ← st.len, List.take_left]
theorem ext_drop (e : Ext H w H' w') : Ext H w H' w := ⟨e.keep, fun _ h => .inl h, ⟨[], by simp⟩, rfl⟩
theorem mono_drop (e : Ext H w H' w') : Mono H' w' H' w := ⟨fun a o h ho => ⟨h, fun hm => by
  obtain ⟨t, q⟩ := e.pre
  exact ho.1 (by rw [q]; exact List.mem_append_left _ hm), by rw [← e.hid]; exact ho.2⟩⟩
theorem stt_drop (st : Stt K H w S) (e : Ext H w H' w') (st' : Stt K H' w' S') : Stt K H' w (S'.take S.length) := by
  have hle : S.length ≤ S'.length := by
    obtain ⟨t, q⟩ := e.pre
    rw [← st.len, ← st'.len, q, List.length_append]
    omega
  refine ⟨st.nd, by rw [List.length_take, st.len]; omega, fun n a ds h1 h2 => ?_, fun a ha => ⟨(st.hid a ha).1, (st'.hid a (by rw [e.hid]; exact ha)).2⟩⟩
  have hn : n < S.length := by rw [← st.len]; exact (List.getElem?_eq_some_iff.mp h1).1
  rw [List.getElem?_take_of_lt hn] at h2
  obtain ⟨t, q⟩ := e.pre
  obtain ⟨vs, k1, k2⟩ := st'.cel n a ds (by rw [q, List.getElem?_append_left (by rw [st.len]; exact hn)]; exact h1) h2
  exact ⟨vs, k1, k2.mono (mono_drop e)⟩
theorem rep_start {vs : List V} {ds : List D} {N : List Str} (r : RpAll K H w vs ds) (hN : ds.length ≤ N.length) : EnvR K H w (L2.start N vs) (ds.map some ++ List.replicate (N.length - ds.length) none) := by
  have hl := r.length
  refine ⟨by unfold L2.start; simp [hl], fun i d h => ?_⟩
  by_cases hi : i < ds.length
  · rw [List.getElem?_append_left (by simpa using hi), List.getElem?_map] at h
    rcases r.get (i := i) with ⟨_, e2⟩ | ⟨v, d', e1, e2, rv⟩
    · rw [e2] at h; cases h
    · rw [e2] at h; cases h
      refine ⟨v, ?_, rv⟩
      unfold L2.start
      rw [List.getElem?_append_left (by simpa [hl] using hi), List.getElem?_map, e1]; rfl
  · rw [List.getElem?_append_right (by simpa using hi), List.getElem?_replicate] at h
    split at h <;> cases h
theorem ExcR.far {G : Str → Option Value} {cls : Value} {dx : Option Addr} {x : Xn} (h : ExcR G K H w cls dx x) (e : Mono H w H' w') : ExcR G K H' w' cls dx x :=
  ⟨h.cls, fun p hp => let ⟨d, v, h1, h2, h3, h4⟩ := h.val p hp; ⟨d, v, h1, (e.keep d _ h2 h3).1, (e.keep d _ h2 h3).2, h4.mono e⟩, h.non⟩
theorem endD_ok {G : Str → Option Value} {W : WX} {σ : L2.St} {keep : Bool} {d : D} {Q : VK} (st : Stt K H w S) (h : PostG G K W σ (RpD K) H w (endD keep S.length d S') Q) : ∀ v H' w', Ext H w H' w' → Stt K H' w' S' → RepD K H' w' v d → Q v H' := by
  intro v H' w' e st' r
  have sd := stt_drop st e st'
  cases d with
  | dat p =>
    have h : PostG G K W σ (RpD K) H w (.ok (D.dat p) (S'.take S.length)) Q := h
    exact h v H' w (ext_drop e) sd (Fz.mono (mono_drop e) r)
  | ref n =>
    obtain ⟨a, ha, rfl⟩ := r
    have hpre := e.pre
    obtain ⟨t, q⟩ := hpre
    unfold endD at h
    simp only [] at h
    split at h
    · rename_i hn
      refine h _ H' w (ext_drop e) sd ⟨a, ?_, rfl⟩
      rw [q, List.getElem?_append_left (by rw [st.len]; exact hn)] at ha
      exact ha
    · rename_i hn
      have haw : a ∉ w.c := fun hm => by
        obtain ⟨m, hm2⟩ := List.getElem?_of_mem hm
        have hlt : m < w.c.length := (List.getElem?_eq_some_iff.mp hm2).1
        have : w'.c[m]? = some a := by rw [q, List.getElem?_append_left hlt]; exact hm2
        have := nodup_get st'.nd ha this
        rw [st.len] at hlt
        omega
      have haz : a ∉ w.z := fun hm => (st'.hid a (by rw [e.hid]; exact hm)).1 (List.mem_of_getElem? ha)
      split at h
      · rename_i ds hds
        obtain ⟨vs, k1, k2⟩ := st'.cel n a ds ha hds
        have f2 := k2.mono (mono_drop e)
        split at h
        · have hnew : H a = none := by
            rcases e.new a (List.mem_of_getElem? ha) with z | z
            · exact absurd z haw
            · exact z
          have mo : Mono H' w H' ⟨w.c ++ [a], w.z⟩ ∨ True := .inr trivial
          have fz : FzA K H' ⟨w.c ++ [a], w.z⟩ vs ds := k2.mono ⟨fun b o hb ho => ⟨hb, fun hm => by
            rcases List.mem_append.mp hm with z | z
            · exact ho.1 (by rw [q]; exact List.mem_append_left _ z)
            · rw [List.mem_singleton] at z; subst z; exact ho.1 (List.mem_of_getElem? ha), by rw [← e.hid]; exact ho.2⟩⟩
          have ex : Ext H w H' ⟨w.c ++ [a], w.z⟩ := ⟨e.keep, fun b hb => by
            rcases List.mem_append.mp hb with z | z
            · exact .inl z
            · rw [List.mem_singleton] at z; subst z; exact .inr hnew, ⟨[a], rfl⟩, rfl⟩
          have hle : S.length ≤ S'.length := by
            rw [← st.len, ← st'.len, q, List.length_append]
            omega
          have tl : (S'.take S.length).length = w.c.length := by rw [List.length_take, st.len]; omega
          refine h _ H' _ ex ⟨?_, by rw [List.length_append, List.length_append, tl]; rfl, fun m b es h1 h2 => ?_, fun b hb => ⟨fun hm => ?_, (sd.hid b hb).2⟩⟩ ⟨a, by rw [← st.len]; simp, rfl⟩
          · rw [List.nodup_append]
            refine ⟨st.nd, by simp, fun x hx y hy exy => ?_⟩
            rw [List.mem_singleton] at hy
            subst hy; subst exy
            exact haw hx
          · by_cases hl : m < w.c.length
            · rw [List.getElem?_append_left hl] at h1
              rw [List.getElem?_append_left (by rw [tl]; exact hl), List.getElem?_take_of_lt (by rw [← st.len]; exact hl)] at h2
              obtain ⟨ws, q1, q2⟩ := st'.cel m b es (by rw [q, List.getElem?_append_left hl]; exact h1) h2
              refine ⟨ws, q1, q2.mono ⟨fun b o hb ho => ⟨hb, fun hm => ?_, by rw [← e.hid]; exact ho.2⟩⟩⟩
              rcases List.mem_append.mp hm with z | z
              · exact ho.1 (by rw [q]; exact List.mem_append_left _ z)
              · rw [List.mem_singleton] at z; subst z; exact ho.1 (List.mem_of_getElem? ha)
            · rw [List.getElem?_append_right (Nat.le_of_not_lt hl)] at h1
              rw [List.getElem?_append_right (by rw [tl]; exact Nat.le_of_not_lt hl), tl] at h2
              cases hm : m - w.c.length with
              | zero =>
                rw [hm] at h1 h2
                simp at h1 h2
                subst h1; subst h2
                exact ⟨vs, k1, fz⟩
              | succ j => rw [hm] at h1; simp at h1
          · rcases List.mem_append.mp hm with z | z
            · exact (st.hid b hb).1 z
            · rw [List.mem_singleton] at z; subst z; exact haz hb
        · exact h _ H' w (ext_drop e) sd (.lst (.inl ⟨Rd.of k1, haw, haz⟩) f2)
      · exact h.elim
end
section
variable {K : PySem.W.Frag} {H H' : Hp} {w w' : Wd} {S S' : Store}
theorem endA_ok (st : Stt K H w S) (e : Ext H w H' w') (st' : Stt K H' w' S') : ∀ {vs : List V} {ds : List D} {ps : List PD}, RpAll K H' w' vs ds → endA S.length S' ds = some ps → FzA K H' w vs ps := by
  intro vs ds ps r
  induction r generalizing ps with
  | nil => intro h; cases h; exact .nil
  | @cons v vs d ds rv rr ih =>
    intro h
    cases d with
    | dat p =>
      simp only [endA, Option.map_eq_some_iff] at h
      obtain ⟨qs, h1, rfl⟩ := h
      exact .cons (Fz.mono (mono_drop e) rv) (ih h1)
    | ref n =>
      obtain ⟨a, ha, rfl⟩ := rv
      simp only [endA] at h
      split at h
      · cases h
      · rename_i hn
        split at h
        · rename_i es hes
          simp only [Option.map_eq_some_iff] at h
          obtain ⟨qs, h1, rfl⟩ := h
          obtain ⟨t, q⟩ := e.pre
          have haw : a ∉ w.c := fun hm => by
            obtain ⟨m, hm2⟩ := List.getElem?_of_mem hm
            have hlt : m < w.c.length := (List.getElem?_eq_some_iff.mp hm2).1
            have : w'.c[m]? = some a := by rw [q, List.getElem?_append_left hlt]; exact hm2
            have := nodup_get st'.nd ha this
            rw [st.len] at hlt
            omega
          have haz : a ∉ w.z := fun hm => (st'.hid a (by rw [e.hid]; exact hm)).1 (List.mem_of_getElem? ha)
          obtain ⟨us, k1, k2⟩ := st'.cel n a es ha hes
          exact .cons (.lst (.inl ⟨Rd.of k1, haw, haz⟩) (k2.mono (mono_drop e))) (ih h1)
        · cases h
theorem endT_ok {G : Str → Option Value} {W : WX} {σ : L2.St} {ds : List D} {Q : VK} (st : Stt K H w S) (h : PostG G K W σ (RpD K) H w (endT S.length ds S') Q) : ∀ v H' w', Ext H w H' w' → Stt K H' w' S' → (∃ a vs, v = .ref a ∧ H' a = some (.tup vs) ∧ w'.out a ∧ RpAll K H' w' vs ds) → Q v H' := by
  intro v H' w' e st' ⟨a, vs, ev, ha, ow, r⟩
  subst ev
  unfold endT at h
  split at h
  · rename_i ps hps
    refine h _ H' w (ext_drop e) (stt_drop st e st') (.tup (.inl ⟨Rd.of ha, ?_⟩) (endA_ok st e st' r hps))
    exact ((mono_drop e).keep a _ ha ow).2
  · exact h.elim
end
/-! ### a def -/
abbrev bX (P : Program) (w : World) (K : PySem.W.Frag) (mg : Str → Option Value) (base : Heap) (N : List Str) (qual : Str) (scope : Scope) (f : Addr) (cd : Value) (A : Around) (outer : List Env) (s : Shared) (H : Hp) (E : XK) : Cx :=
  cxOf (L2.CX P w) P w K mg base N qual scope f cd A outer s H E
abbrev bW (E : XK) : WX := fun cls d _ H => E cls d H
section
variable {P : Program} {w : World} {K : PySem.W.Frag} {mg : Str → Option Value} {base : Heap} {x qual : Str} {params : Arguments} {body : List Stmt} {scope : Scope} {dvs : List V} {kws : List (Str × V)} {f : Addr} {fd : FuncData}
theorem takes_b {N : List Str} {cd : Value} {A : Around} {outer : List Env} {s : Shared} {H : Hp} {E : XK} : Takes (bX P w K mg base N qual scope f cd A outer s H E) (bW E) :=
  takes_of (E := E) rfl rfl rfl rfl
theorem passes_b {N : List Str} {cd : Value} {A : Around} {outer : List Env} {s : Shared} {H : Hp} {E : XK} :
    PassesOwn (model (bX P w K mg base N qual scope f cd A outer s H E).prog (bX P w K mg base N qual scope f cd A outer s H E).w) (bX P w K mg base N qual scope f cd A outer s H E).A (bX P w K mg base N qual scope f cd A outer s H E).env (bX P w K mg base N qual scope f cd A outer s H E).xe :=
  passes_of (X := bX P w K mg base N qual scope f cd A outer s H E) rfl
/-- the body does b: the def does fnM b -/
theorem fng {N ps : List Str} {k : Nat} (F : FunD K x qual params body scope dvs kws f fd) (Sc : FnScope N ps scope) (keep : Bool) {b : MS}
    (hb : ∀ (cd : Value) (A : Around) (outer : List Env) (s : Shared) (H : Hp) (E : XK), Room k (bX P w K mg base N qual scope f cd A outer s H E).A → (bX P w K mg base N qual scope f cd A outer s H E).A.guards = some [] →
      SSs (bX P w K mg base N qual scope f cd A outer s H E) (bW E) body b) :
    FnG P w K mg base (k + 1) f fd ps (spD mg K ps.length (fnM (N.length - ps.length) keep b)) := by
  refine FnG.of F Sc spD_len fun cd A outer s H vs Q E hr hg ⟨w0, S, ds, st, r, hl, h⟩ => ⟨_, (hb cd A outer s H E hr hg).ps, ?_⟩
  have hpl : ds.length ≤ N.length := by
    have := congrArg List.length Sc.pre
    rw [List.length_take] at this
    omega
  refine ⟨ds.map some ++ List.replicate (N.length - ds.length) none, w0, S, rep_start r hpl, st, ?_⟩
  unfold fnM at h
  rw [← hl] at h
  show PostS mg K (bW E) H w0 _ _
  cases e : b (ds.map some ++ List.replicate (N.length - ds.length) none) S with
  | bad => rw [e] at h; exact h.elim
  | exc xn δ S' =>
    rw [e] at h
    exact fun cls dx σ' H' w' e' st' env' ex => h cls dx H' w0 (ext_drop e') (stt_drop st e' st') (ex.far (mono_drop e'))
  | ok fl S' =>
    rw [e] at h
    cases fl with
    | nx δ => exact fun σ' H' w' e' st' env' => h .non H' w0 (ext_drop e') (stt_drop st e' st') .non
    | ret d => exact endD_ok st h
    | rtT rs => exact endT_ok st h
    | brk δ => exact h.elim
    | ct δ => exact h.elim
theorem FnG.more {j k : Nat} {ps : List Str} {sp : Sp} (h : FnG P w K mg base j f fd ps sp) (le : j ≤ k) : FnG P w K mg base k f fd ps sp :=
  ⟨h.len, fun A outer s H args us vs Q E r => h.run A outer s H args us vs Q E (r.mono le)⟩
end
/-- a def, as callers know it -/
def DefX (P : Program) (w : World) (K : PySem.W.Frag) (mg : Str → Option Value) (base : Heap) (k : Nat) (x : Str) (st : Stmt) (ps : List Str) (F : List D → M D) : Prop :=
  ∃ f fd, FunD K x x (defArgs st) (defBody st) (defScope st) [] [] f fd ∧ mg x = some (.ref f) ∧ FnG P w K mg base k f fd ps (spD mg K ps.length F)
section
variable {P : Program} {w : World} {K : PySem.W.Frag} {mg : Str → Option Value} {base : Heap} {k : Nat} {x : Str} {st : Stmt} {ps : List Str} {F : List D → M D}
theorem DefX.mk {N : List Str} (h : ∃ f fd, FunD K x x (defArgs st) (defBody st) (defScope st) [] [] f fd ∧ mg x = some (.ref f)) (Sc : FnScope N ps (defScope st)) (keep : Bool) {b : MS} (hF : F = fnM (N.length - ps.length) keep b)
    (hb : ∀ (f : Addr) (cd : Value) (A : Around) (outer : List Env) (s : Shared) (H : Hp) (E : XK), Room k (bX P w K mg base N x (defScope st) f cd A outer s H E).A → (bX P w K mg base N x (defScope st) f cd A outer s H E).A.guards = some [] →
      SSs (bX P w K mg base N x (defScope st) f cd A outer s H E) (bW E) (defBody st) b) : DefX P w K mg base (k + 1) x st ps F := by
  obtain ⟨f, fd, Fd, g⟩ := h
  subst hF
  exact ⟨f, fd, Fd, g, fng Fd Sc keep (hb f)⟩
end
/-! ### the law's call -/
theorem law_go {P : Program} {w : World} {K : PySem.W.Frag} {mg mb : Str → Option Value} {k : Nat} {fa a : Addr} {fd : FuncData} {x : Str} {sp : Sp} {s1 : Shared} {vs : List Value} {ns : List Int}
    (KX : K.In s1.heap) (hns : s1.heap.Ns mainGlobals mg) (hb : s1.heap.Ns builtinsNs mb) (hbb : ∀ x : Str, x ≠ "__name__" → mb x = bootBuiltins x) (hlim : s1.heap.NoLimit) (hg : s1.gens = #[])
    (ha : s1.heap.get? a = some { cls := .type "list", data := .seq vs.toArray }) (hi : IntsAre vs ns) (hl : ns.length ≤ sizeLine) (hr : Room k callerA)
    (F : ∀ base : Heap, K.In base → base.Ns mainGlobals mg → FnG P w K mg base k fa fd [x] sp) (bd : ∀ (s : Shared) (u : Value), BindsTo s fd ⟨[u], []⟩ [(x, u)])
    (hsp : ∀ H : Hp, FzL K H ⟨[], []⟩ a (ns.map V.int) → sp [.ref a] H (fun v _ => v = .bl true) fun _ _ _ => False) :
    codeAny (model P w) callerA (.call (.ref fa) ⟨[.ref a], []⟩) (fun r s2 => r = .ok (.ret (.bool true)) ∧ OldK s1.heap s2.heap ∧ s2.os = s1.os ∧ AllBare s2.gens) s1 := by
  have vi := vals_ints hi
  have vl := hi.length
  -- with a heap in which nothing stands, or the script alone
  have main : ∀ H : Hp, Only H → FzL K H ⟨[], []⟩ a (ns.map V.int) → HOk P w H s1.heap → (∀ c, H c ≠ none → c = a ∧ K.lookup a = none) →
      codeAny (model P w) callerA (.call (.ref fa) ⟨[.ref a], []⟩) (fun r s2 => r = .ok (.ret (.bool true)) ∧ OldK s1.heap s2.heap ∧ s2.os = s1.os ∧ AllBare s2.gens) s1 := by
    intro H only sq hok own
    have none_of : ∀ c, (c = a → K.lookup a = none → False) → H c = none := fun c k => by
      by_cases z : H c = none
      · exact z
      · exact (k (own c z).1 (own c z).2).elim
    have keepK : K.In (hidT s1.heap H) := fun c o e => hidT_get (KX c o e) (none_of c fun e1 e2 => by subst e1; rw [e2] at e; cases e)
    have keepN : ∀ {c : Addr} {m : Str → Option Value}, s1.heap.Ns c m → (hidT s1.heap H).Ns c m := fun {c m} ⟨o, es, ep, e, d, r⟩ => by
      refine ⟨o, es, ep, hidT_get e (none_of c fun e1 _ => ?_), d, r⟩
      subst e1
      rw [ha] at e; cases e
      cases (show Data.seq vs.toArray _ = Data.dict es ep from d)
    obtain ⟨mc, l1, l2⟩ := hlim
    have en : Env0 P w K mg (hidT s1.heap H) callerA [] s1 H :=
      { frames := rfl, mod := ⟨keepK, keepN hns, ⟨mb, keepN hb, hbb⟩, mc, keepN l1, l2⟩, bs := fun c o e => of_hidT e, bsz := Nat.le_of_eq (hidT_size _ _), funs := trivial
        frf := fun c hc => absurd (show c ∈ ([] : List Addr) from hc) (by simp), hok := hok, bare := .of_eq hg }
    refine codeAny_mono ((F _ keepK (keepN hns)).run callerA [] s1 H ⟨[.ref a], []⟩ [.ref a] [.ref a] _ _ hr rfl en (bd s1 _) (.cons rfl .nil) (hsp H sq)) fun r s2 h => ?_
    rcases r with e | fl
    · obtain ⟨_, _, _, _, _, _, _, _, _, _, _, _, z⟩ := h
      exact z.elim
    · cases fl with
      | next => exact h.elim
      | brk => exact h.elim
      | cont => exact h.elim
      | ret u =>
        obtain ⟨v, H2, os, bare, un, ok2, rv, q⟩ := h
        cases (show v = .bl true from q)
        cases (show u = Value.bool true from rv)
        refine ⟨rfl, OldK.of_keep fun c o e => ?_, os, bare⟩
        rcases only c with z | ⟨ob, xs, z⟩
        · exact un.keep c o e z (fun m => absurd (show c ∈ ([] : List Addr) from m) (by simp)) (by simp)
        · have e2 := (ok2 c _ (un.frzs c ob _ z)).1
          have e1 := (hok c _ z).1
          rw [e] at e1; cases e1
          exact e2
  cases hk : K.lookup a with
  | some o =>
    have e := KX a o hk
    rw [ha] at e; cases e
    refine main (fun _ => none) (fun _ => .inl rfl) (.inr ⟨vs, _, hk, by rw [List.length_map]; exact hl, vi⟩) (fun c u z => ?_) fun c z => absurd rfl z
    cases (show (none : Option HO) = some u from z)
  | none =>
    refine main (fun c => if c = a then some (.frz { cls := .type "list", data := .seq vs.toArray } (.lst (ns.map V.int))) else none) (fun c => ?_) (.inl ⟨.inr ⟨_, if_pos rfl⟩, by simp [Wd.out]⟩) (fun c u z => ?_) fun c z => ⟨?_, hk⟩
    · by_cases hc : c = a
      · exact .inr ⟨_, _, if_pos hc⟩
      · exact .inl (if_neg hc)
    · by_cases hc : c = a
      · cases (if_pos hc).symm.trans z
        subst hc
        exact ⟨ha, by rw [List.length_map]; exact hl, vs, _, vi, ha⟩
      · cases (if_neg hc).symm.trans z
    · by_cases hc : c = a
      · exact hc
      · exact absurd (if_neg hc) z
/-- the end: the law's def does F, F gives True of each script -/
theorem walkD {l : PySem.W.OpenLaw} {n k : Nat} {q : Program} {loose : List Str} {XP : (Str → Option Value) → Heap → Prop} {YP : World → Heap → Prop} {d : DefRec} {x : Str} {F : List D → M D}
    (hn : l.most = some n) (hn2 : n ≤ sizeLine) (hdf : d.params.defaults = []) (hr : Room k callerA)
    (hF : ∀ (w : World) (mg : Str → Option Value) (fa : Addr) (h : Heap), YP w h → h.Ns mainGlobals mg → mg d.name = some (.ref fa) →
      ∃ (K : PySem.W.Frag) (fd : FuncData), K.In h ∧ (∀ (s : Shared) (u : Value), BindsTo s fd ⟨[u], []⟩ [(x, u)]) ∧
        ∀ base : Heap, K.In base → base.Ns mainGlobals mg → FnG l.prog w K mg base k fa fd [x] (spD mg K 1 F))
    (law : ∀ ns : List Int, ns.length ≤ n → (∀ i ∈ ns, Builtin.Int.intBits i ≤ 1048576) → ∃ S, F [.dat (.list (ns.map PyData.int))] [] = .ok (.dat (.bool true)) S) :
    PySem.W.WalkO q loose XP YP l.row.toRowW d [] (fun f vs => PySem.call f vs) := by
  refine Att.attach_callB hn hdf fun w s0 s1 mg mb fa o pm cd doc a vs ns G Y ho hd hcd hmg hobj hints hlen hbits hg => ?_
  obtain ⟨K, fd, KX, hb, hG⟩ := hF w mg fa _ Y G.T.g hmg
  refine law_go KX G.T.g G.T.b G.T.builtins G.T.nolimit hg hobj hints (Nat.le_trans hlen hn2) hr hG hb fun H sq => ?_
  obtain ⟨S, e⟩ := law ns hlen hbits
  refine ⟨⟨[], []⟩, [], [.dat (.list (ns.map PyData.int))], ⟨by simp, rfl, fun n a ds h1 _ => by simp at h1, fun a h => by simp at h⟩, .cons (.lst sq (fz_ints ns)) .nil, rfl, ?_⟩
  rw [e]
  intro v H' w' _ _ r
  cases r
  rfl
end DL

set_option Elab.async false
set_option linter.all false
set_option maxRecDepth 100000
set_option maxHeartbeats 4000000
/-! DLn: what is known of the module: its defs, its constants, the names that it leaves to the builtins. -/
namespace DL
open PySem PySem.Spec PyProof.Rows L2

mutual
/-- u stands for p, whatever the heap -/
def kB (K : PySem.W.Frag) : Value → PD → Bool
  | u, .none => (match u with | .none => true | _ => false)
  | u, .bool b => (match u with | .bool c => c == b | _ => false)
  | u, .int i => (match u with | .int j _ => decide (j = i) | _ => false)
  | u, .str z => (match u with | .str y _ => decide (y = z) | _ => false)
  | u, .tuple ps => (match u with
    | .ref a => (match K.lookup a with
      | some ⟨.type c, none, .seq its _, _⟩ => decide (c = "tuple") && (decide (its.size ≤ sizeLine) && kBs K its.toList ps)
      | _ => false)
    | _ => false)
  | u, .list ps => (match u with
    | .ref a => (match K.lookup a with
      | some ⟨.type c, none, .seq its _, sl⟩ => decide (c = "list") && (decide (its.size ≤ sizeLine) && (sl.isEmpty && kBs K its.toList ps))
      | _ => false)
    | _ => false)
  | _, .dict _ => false
def kBs (K : PySem.W.Frag) : List Value → List PD → Bool
  | us, [] => us.isEmpty
  | us, p :: ps => (match us with
    | u :: us => kB K u p && kBs K us ps
    | [] => false)
end
mutual
theorem kB_ok {K : PySem.W.Frag} : ∀ {p : PD} {u : Value}, kB K u p = true → ∃ v, RelV v u ∧ KDat K v p
  | .none, u, h => by
    unfold kB at h
    split at h
    · exact ⟨.non, rfl, fun _ _ => .non, fun _ _ e => nomatch e⟩
    · cases h
  | .bool b, u, h => by
    unfold kB at h
    split at h
    · rename_i c
      have : c = b := by simpa using h
      subst this
      exact ⟨.bl c, rfl, fun _ _ => .bl _, fun _ _ e => nomatch e⟩
    · cases h
  | .int i, u, h => by
    unfold kB at h
    split at h
    · rename_i j t
      have : j = i := of_decide_eq_true h
      subst this
      exact ⟨.int j, ⟨t, rfl⟩, fun _ _ => .int _, fun _ _ e => nomatch e⟩
    · cases h
  | .str z, u, h => by
    unfold kB at h
    split at h
    · rename_i y t
      have : y = z := of_decide_eq_true h
      subst this
      exact ⟨.str y, ⟨t, rfl⟩, fun _ _ => .str _, fun _ _ e => nomatch e⟩
    · cases h
  | .tuple ps, u, h => by
    unfold kB at h
    split at h
    · rename_i a
      split at h
      · rename_i c its n sl q
        simp only [Bool.and_eq_true, decide_eq_true_eq] at h
        obtain ⟨h1, h2, h3⟩ := h
        obtain ⟨vs, r, f⟩ := kBs_ok h3
        exact ⟨.ref a, rfl, fun H w => .tup (.inr ⟨_, its, n, q, by rw [h1], rfl, h2, r⟩) (f H w), fun b _ e _ => by cases e; exact ⟨_, q, by rw [h1], rfl⟩⟩
      · cases h
    · cases h
  | .list ps, u, h => by
    unfold kB at h
    split at h
    · rename_i a
      split at h
      · rename_i c its n sl q
        simp only [Bool.and_eq_true, decide_eq_true_eq] at h
        obtain ⟨h1, h2, h4, h3⟩ := h
        obtain ⟨vs, r, f⟩ := kBs_ok h3
        have hs : sl = #[] := Array.isEmpty_iff.mp h4
        subst h1; subst hs
        refine ⟨.ref a, rfl, fun H w => .lst (.inr ⟨its.toList, n, by simpa using q, by rw [r.length, Array.length_toList]; exact h2, r⟩) (f H w), fun _ _ _ e => nomatch e⟩
      · cases h
    · cases h
  | .dict _, u, h => by simp [kB] at h
theorem kBs_ok {K : PySem.W.Frag} : ∀ {ps : List PD} {us : List Value}, kBs K us ps = true → ∃ vs, Vals vs us ∧ ∀ H w, FzA K H w vs ps
  | [], us, h => by
    unfold kBs at h
    cases us with
    | nil => exact ⟨[], .nil, fun _ _ => .nil⟩
    | cons a b => cases h
  | p :: ps, us, h => by
    unfold kBs at h
    split at h
    · rename_i u us
      rw [Bool.and_eq_true] at h
      obtain ⟨v, r, f⟩ := kB_ok h.1
      obtain ⟨vs, rs, fs⟩ := kBs_ok h.2
      exact ⟨v :: vs, .cons r rs, fun H w => .cons (f.fz H w) (fs H w)⟩
    · cases h
end
def conB (K : PySem.W.Frag) (c : Str × PD) : Bool := match PySem.W.nsIn K mainGlobals c.1 with
  | some (some u) => kB K u c.2
  | _ => false
/-! ### the hook: defs, free names, constants -/
def hookM (n : Nat) (fa : List He.Fa) (fn : List He.DefD) (cs : List (Str × PD)) : PySem.W.Hook where
  α := He.AlD × Bool
  obs := fun s => (He.obsDG n fa fn s.heap.get?, cs.all (conB (He.frG s.heap.get? (He.asD s.heap.get? n))))
  val := fun _ => (He.valD fn, true)
  says := fun _ h => ∃ K : PySem.W.Frag, K.In h ∧ He.SaysD fa fn K ∧ cs.all (conB K) = true
  of := fun _ _ e => ⟨_, He.frG_in, congrArg (fun z : He.AlD × Bool => z.1) e, congrArg (fun z : He.AlD × Bool => z.2) e⟩
  keeps := fun _ _ _ ⟨K, hK, c⟩ k => ⟨K, PySem.W.Frag.In.keeps hK k, c⟩
def obsM (n : Nat) (fa : List He.Fa) (fn : List He.DefD) (cs : List (Str × PD)) (g : Addr → Option Obj) : He.AlD × Bool := (He.obsDG n fa fn g, cs.all (conB (He.frG g (He.asD g n))))
theorem obsM_eq {n : Nat} {fa : List He.Fa} {fn : List He.DefD} {cs : List (Str × PD)} {g : Addr → Option Obj} {s : Shared} (h : ∀ a, g a = s.heap.get? a) : obsM n fa fn cs g = (hookM n fa fn cs).obs s := by
  have e : g = s.heap.get? := funext h
  subst e
  rfl
/-- the defs by name and place -/
def mkD (top : Nat → Stmt) (q : Str × Nat) : He.DefD := ⟨(q.1, none), q.1, q.1, defArgs (top q.2), defBody (top q.2), defScope (top q.2), [], []⟩
def mkFn (top : Nat → Stmt) (ds : List (Str × Nat)) : List He.DefD := ds.map (mkD top)
def mkFa (ds : List (Str × Nat)) (fr : List Str) : List He.Fa := ds.map (fun q => .glo q.1) ++ fr.map .free
structure Fc (top : Nat → Stmt) (ds : List (Str × Nat)) (fr : List Str) (cs : List (Str × PD)) (K : PySem.W.Frag) (mg : Str → Option Value) (h : Heap) : Prop where
  kin : K.In h
  ns : h.Ns mainGlobals mg
  says : He.SaysD (mkFa ds fr) (mkFn top ds) K
  cons : cs.all (conB K) = true
section
variable {top : Nat → Stmt} {ds : List (Str × Nat)} {fr : List Str} {cs : List (Str × PD)} {K : PySem.W.Frag} {mg : Str → Option Value} {h : Heap}
theorem Fc.def_ (c : Fc top ds fr cs K mg h) (i : Nat) {x : Str} {j : Nat} (hi : ds[i]? = some (x, j)) : ∃ f fd, FunD K x x (defArgs (top j)) (defBody (top j)) (defScope (top j)) [] [] f fd ∧ mg x = some (.ref f) := by
  obtain ⟨fd, F⟩ := c.says.def_ i (d := mkD top (x, j)) (by unfold mkFn; rw [List.getElem?_map, hi]; rfl)
  have hl : i < ds.length := (List.getElem?_eq_some_iff.mp hi).1
  have f := c.says.fact i (f := .glo x) (by unfold mkFa; rw [List.getElem?_append_left (by simpa using hl), List.getElem?_map, hi]; rfl)
  exact ⟨_, fd, F, He.glo_ok c.kin c.ns f⟩
theorem Fc.free (c : Fc top ds fr cs K mg h) (i : Nat) {x : Str} (hi : fr[i]? = some x) : mg x = none := by
  have f := c.says.fact (ds.length + i) (f := .free x) (by
    unfold mkFa
    rw [List.getElem?_append_right (by simp), List.length_map, Nat.add_sub_cancel_left, List.getElem?_map, hi]; rfl)
  exact He.free_ok c.kin c.ns f
theorem Fc.con (c : Fc top ds fr cs K mg h) (i : Nat) {x : Str} {p : PD} (hi : cs[i]? = some (x, p)) : ∃ u v, mg x = some u ∧ RelV v u ∧ KDat K v p := by
  have q := List.all_eq_true.mp c.cons (x, p) (List.mem_of_getElem? hi)
  unfold conB at q
  split at q
  · rename_i u e
    obtain ⟨v, r, f⟩ := kB_ok q
    exact ⟨u, v, PySem.W.mg_of c.kin c.ns e, r, f⟩
  · cases q
end
/-! ### binding -/
theorem bd_of {K : PySem.W.Frag} {x qual : Str} {params : Arguments} {body : List Stmt} {scope : Scope} {kws : List (Str × V)} {f : Addr} {fd : FuncData} {ps ks : List Str} {n : Nat} {prm : List Nat} (F : FunD K x qual params body scope [] kws f fd)
    (h : ∀ (kV doc pm : Value) (an : Option Addr) (cdv ct : Value) (us ws : List Value), us.length = n → ws.length = ks.length → bindArgs (PySem.W.fnOf x qual params body scope .none kV doc pm an cdv ct) ⟨us, ks.zip ws⟩ = pure (ps.zip (pick prm (us ++ ws)))) :
    Bd K fd ps n ks prm := by
  obtain ⟨oc, od, dV, kV, doc, pm, an, cdv, ct, osl, rfl, lk, hcd, hD, hK⟩ := F.ex
  rcases hD with ⟨_, rfl⟩ | ⟨e, _⟩
  · exact fun s us ws _ h1 h2 => BindsTo.of_eq (h kV doc pm an cdv ct us ws h1 h2)
  · exact absurd rfl e
theorem bd_plain {K : PySem.W.Frag} {x qual : Str} {params : Arguments} {body : List Stmt} {scope : Scope} {kws : List (Str × V)} {f : Addr} {fd : FuncData} {ps : List Str} (F : FunD K x qual params body scope [] kws f fd)
    (h : ∀ (kV doc pm : Value) (an : Option Addr) (cdv ct : Value) (us : List Value), us.length = ps.length → bindArgs (PySem.W.fnOf x qual params body scope .none kV doc pm an cdv ct) ⟨us, []⟩ = pure (ps.zip us)) : Bd K fd ps ps.length [] (List.range ps.length) :=
  bd_of F fun kV doc pm an cdv ct us ws h1 h2 => by
    cases ws with
    | nil =>
      rw [List.append_nil, show pick (List.range ps.length) us = us by rw [← h1]; exact pick_all us]
      exact h kV doc pm an cdv ct us h1
    | cons a b => cases h2
/-- names that are seen -/
def visB (sc : Scope) (x : Str) : Bool := match sc.names.lookup x with
  | some .local => true
  | some .cell => true
  | some .free => true
  | _ => false
theorem vis_of {sc : Scope} {x : Str} (h : visB sc x = true) : Vis sc x := by
  unfold visB at h
  unfold Vis
  split at h <;> first | (rename_i e; first | exact .inl e | exact .inr (.inl e) | exact .inr (.inr e)) | cases h
end DL
namespace DL
open PySem PySem.Spec PyProof.Rows L2
def LenA (fa : DEnv → M (List D)) (n : Nat) : Prop := ∀ δ S ds S', fa δ S = .ok ds S' → ds.length = n
theorem len_nil : LenA nilA 0 := fun _ _ _ _ h => by cases h; rfl
theorem len_cons {fa : DEnv → M D} {fs : DEnv → M (List D)} {n : Nat} (h : LenA fs n) : LenA (consA fa fs) (n + 1) := fun δ S ds S' e => by
  obtain ⟨d, S1, _, e⟩ := bind_ok_inv e
  obtain ⟨es, S2, e2, e⟩ := bind_ok_inv e
  cases e
  rw [List.length_cons, h _ _ _ _ e2]
/-- a def that is not called deeper -/
theorem DefX.zero {P : Program} {w : World} {K : PySem.W.Frag} {mg : Str → Option Value} {base : Heap} {k : Nat} {x : Str} {st : Stmt} {ps : List Str} (h : ∃ f fd, FunD K x x (defArgs st) (defBody st) (defScope st) [] [] f fd ∧ mg x = some (.ref f)) :
    DefX P w K mg base k x st ps (fun _ _ => .bad) := by
  obtain ⟨f, fd, F, g⟩ := h
  exact ⟨f, fd, F, g, spD_len, fun A outer s H args us vs Q E _ _ _ _ _ ⟨_, _, _, _, _, _, h⟩ => h.elim⟩
/-! ### a call that makes a cell -/
def cC (K : PySem.W.Frag) (g : List PD → Option (List PD)) : List V → Hp → VK → Prop := fun xs H Q => ∃ w ps ds, NowA K H w xs ps ∧ g ps = some ds ∧ ∀ p vs, H p = none → FzA K H w vs ds → Q (.ref p) (upd H p (.lst vs))
def bltC (g : List PD → Option (List PD)) (fa : DEnv → M (List D)) : DEnv → M D := fun δ S => (fa δ S).bind fun ds S1 => (opt (derefs S1 ds) S1).bind fun ps S1 => (opt (g ps) S1).bind fun r S1 => .ok (.ref S1.length) (S1 ++ [r])
def listC : List PD → Option (List PD)
  | [.list ds] => some ds
  | [.tuple ds] => some ds
  | [.str z] => if z.length ≤ sizeLine then some (signsP z) else none
  | _ => none
section
variable {X : Cx} {W : WX} {x : Str} {p pos : Pos} {e : Expr} {es : List Expr} {fa : DEnv → M (List D)}
theorem cc_list (hh : X.A.handled = none) : CallR X (.type "list") (cC X.K listC) := by
  intro pins s σ H xs us Q I rv ⟨w, ps, r, h1, h, k⟩
  unfold listC at h
  split at h
  · cases h
    obtain ⟨v, rfl, n⟩ := h1.one
    obtain ⟨a, xs, rfl, l, f⟩ := n.list
    exact call_list_of pins s σ H _ us Q I rv ⟨_, _, rfl, .inl l.seq, fun p hp => k _ _ hp f⟩
  · cases h
    obtain ⟨v, rfl, n⟩ := h1.one
    obtain ⟨a, xs, rfl, l, f⟩ := n.tup
    exact call_list_of pins s σ H _ us Q I rv ⟨_, _, rfl, .inr l.seq, fun p hp => k _ _ hp f⟩
  · split at h <;> cases h
    rename_i hz
    obtain ⟨v, rfl, n⟩ := h1.one
    cases n.str
    exact call_list_signs hh pins s σ H _ us Q I rv ⟨_, rfl, hz, fun p hp => k _ _ hp (fz_signs _)⟩
  · cases h
theorem se_btypC {g : List PD → Option (List PD)} {T : String} (hc : CallR X (.type T) (cC X.K g)) (hg : Gl X x) (hm : X.mg x = none) (hv : bootBuiltins x = some (.type T)) (ha : SA X W (e :: es) fa) (hn : x ≠ "__name__") (hdb : (x == ("__debug__" : Str)) = false)
    (he : starEach (e :: es) X.env = (false, eval e X.env) :: starEach es X.env) (hpl : (backTo pos (starEach es X.env)).any (·.1) = false) : SE X W (.Call (.Name x p) (e :: es) [] pos) (bltC g fa) :=
  ⟨PE.imp (pe_callTy hc hg hm hv ha.pa hn hdb he hpl) fun σ H Q ⟨δ, w, S, env, st, h⟩ => ⟨δ, w, S, env, st, PostG.bind h fun vs H1 w1 ds S1 e1 st1 rs h => by
    obtain ⟨ps, hp, h⟩ := h.opt
    obtain ⟨r, hr, h⟩ := h.opt
    refine ⟨w1, ps, r, NowA.of st1 rs hp, hr, fun p vs hp f => ?_⟩
    obtain ⟨ex, st2⟩ := st1.alloc hp f
    exact h.ok ex st2 ⟨p, by rw [← st1.len]; simp, rfl⟩⟩⟩
end
end DL

set_option Elab.async false
set_option linter.all false
set_option maxRecDepth 100000
set_option maxHeartbeats 4000000
/-! DLo: lists and tuples of ranges. -/
namespace DL
open PySem PySem.Spec PyProof.Rows L2

structure SRg (X : Cx) (W : WX) (e : Expr) (f : DEnv → M (Int × Int)) : Prop where
  pr : PRg X e (fun σ H Q => tG X.mg X.K W (fun _ _ (p q : Int × Int) => p = q) f σ H fun p H1 => Q p.1 p.2 H1)
theorem PRg.imp {X : Cx} {e : Expr} {t t' : L2.St → Hp → (Int → Int → Hp → Prop) → Prop} (h : PRg X e t) (k : ∀ σ H Q, t' σ H Q → t σ H Q) : PRg X e t' := fun pins s σ H Q I q => h pins s σ H Q I (k _ _ _ q)
def rg1 (fe : DEnv → M D) : DEnv → M (Int × Int) := fun δ S => (fe δ S).bind fun d S1 => match d with
  | .dat (.int j) => .ok (0, j) S1
  | _ => .bad
def rg2 (fa fb : DEnv → M D) : DEnv → M (Int × Int) := fun δ S => (fa δ S).bind fun c S1 => (fb δ S1).bind fun d S2 => match c, d with
  | .dat (.int i), .dat (.int j) => .ok (i, j) S2
  | _, _ => .bad
def rgB (p : Int × Int) : Bool := decide (-(2 ^ 62) ≤ p.1 ∧ p.1 < 2 ^ 62 ∧ -(2 ^ 62) ≤ p.2 ∧ p.2 < 2 ^ 62 ∧ (p.2 - p.1).toNat ≤ 2 ^ 24)
theorem rgB_ok {p : Int × Int} (h : rgB p = true) : RgOk p.1 p.2 := by
  have h2 : -(2 ^ 62) ≤ p.1 ∧ p.1 < 2 ^ 62 ∧ -(2 ^ 62) ≤ p.2 ∧ p.2 < 2 ^ 62 ∧ (p.2 - p.1).toNat ≤ 2 ^ 24 := by simpa only [rgB, decide_eq_true_eq] using h
  exact h2
def lrgE (fr : DEnv → M (Int × Int)) : DEnv → M D := fun δ S => (fr δ S).bind fun p S1 => if rgB p = true then .ok (.dat (.list (rangeL p.1 (p.2 - p.1).toNat))) S1 else .bad
def lrgC (fr : DEnv → M (Int × Int)) : DEnv → M D := fun δ S => (fr δ S).bind fun p S1 => if rgB p = true then .ok (.ref S1.length) (S1 ++ [rangeL p.1 (p.2 - p.1).toNat]) else .bad
def trgE (fr : DEnv → M (Int × Int)) : DEnv → M D := fun δ S => (fr δ S).bind fun p S1 => if rgB p = true then .ok (.dat (.tuple (rangeL p.1 (p.2 - p.1).toNat))) S1 else .bad
theorem fz_rg {K : PySem.W.Frag} {H : Hp} {w : Wd} (a b : Int) : FzA K H w (rgV a b) (rangeL a (b - a).toNat) := by
  unfold rgV rangeL
  generalize List.range (b - a).toNat = l
  induction l with
  | nil => exact .nil
  | cons i r ih => exact .cons (.int _) ih
section
variable {X : Cx} {W : WX} {e a b : Expr} {fe fa fb : DEnv → M D} {p pos : Pos} {fr : DEnv → M (Int × Int)}
theorem srg1 (hg : Gl X "range") (hm : X.mg "range" = none) (he : SE X W e fe) (na : starEach [e] X.env = (false, eval e X.env) :: starEach [] X.env) : SRg X W (.Call (.Name "range" p) [e] [] pos) (rg1 fe) :=
  ⟨PRg.imp (prg_1 hg hm he.pe na) fun σ H Q ⟨δ, w, S, env, st, h⟩ => ⟨δ, w, S, env, st, PostG.bind h fun v H1 w1 d S1 e1 st1 rv h => by
    split at h
    · cases rv
      exact ⟨_, rfl, h.ok (.refl _ _) st1 rfl⟩
    · exact h.elim⟩⟩
theorem srg2 (hg : Gl X "range") (hm : X.mg "range" = none) (ha : SE X W a fa) (hb : SE X W b fb) (na : starEach [a, b] X.env = (false, eval a X.env) :: starEach [b] X.env) (nb : starEach [b] X.env = (false, eval b X.env) :: starEach [] X.env)
    (hp : (backTo pos (starEach [b] X.env)).any (·.1) = false) : SRg X W (.Call (.Name "range" p) [a, b] [] pos) (rg2 fa fb) :=
  ⟨PRg.imp (prg_2 hg hm ha.pe hb.pe na nb hp) fun σ H Q ⟨δ, w, S, env, st, h⟩ => ⟨δ, w, S, env, st, PostG.bind h fun v H1 w1 c S1 e1 st1 rv h =>
    ⟨δ, w1, S1, env.mono e1, st1, PostG.bind h fun u H2 w2 d S2 e2 st2 ru h => by
      split at h
      · cases rv; cases ru
        exact ⟨_, _, rfl, rfl, h.ok (.refl _ _) st2 rfl⟩
      · exact h.elim⟩⟩⟩
theorem se_lrg (hc : X.calm = true) (hg : Gl X "list") (hm : X.mg "list" = none) (he : SRg X W e fr) (na : starEach [e] X.env = (false, eval e X.env) :: starEach [] X.env) : SE X W (.Call (.Name "list" p) [e] [] pos) (lrgE fr) :=
  ⟨PE.imp (pe_listRg hc hg hm he.pr na) fun σ H Q ⟨δ, w, S, env, st, h⟩ => ⟨δ, w, S, env, st, PostG.bind h fun v H1 w1 q S1 e1 st1 rv h => by
    cases rv
    split at h
    · rename_i hz
      exact ⟨rgB_ok hz, fun p hp => h.ok (.same (same_new hp)) (st1.same (same_new hp)) (fz_new (fun a => st1.fresh) hp (fz_rg _ _))⟩
    · exact h.elim⟩⟩
theorem se_lrgC (hc : X.calm = true) (hg : Gl X "list") (hm : X.mg "list" = none) (he : SRg X W e fr) (na : starEach [e] X.env = (false, eval e X.env) :: starEach [] X.env) : SE X W (.Call (.Name "list" p) [e] [] pos) (lrgC fr) :=
  ⟨PE.imp (pe_listRg hc hg hm he.pr na) fun σ H Q ⟨δ, w, S, env, st, h⟩ => ⟨δ, w, S, env, st, PostG.bind h fun v H1 w1 q S1 e1 st1 rv h => by
    cases rv
    split at h
    · rename_i hz
      refine ⟨rgB_ok hz, fun p hp => ?_⟩
      obtain ⟨ex, st2⟩ := st1.alloc hp (fz_rg _ _)
      exact h.ok ex st2 ⟨p, by rw [← st1.len]; simp, rfl⟩
    · exact h.elim⟩⟩
theorem se_trg (hc : X.calm = true) (hg : Gl X "tuple") (hm : X.mg "tuple" = none) (he : SRg X W e fr) (na : starEach [e] X.env = (false, eval e X.env) :: starEach [] X.env) : SE X W (.Call (.Name "tuple" p) [e] [] pos) (trgE fr) :=
  ⟨PE.imp (pe_tupRg hc hg hm he.pr na) fun σ H Q ⟨δ, w, S, env, st, h⟩ => ⟨δ, w, S, env, st, PostG.bind h fun v H1 w1 q S1 e1 st1 rv h => by
    cases rv
    split at h
    · rename_i hz
      exact ⟨rgB_ok hz, fun p hp => h.ok (.same (same_new hp)) (st1.same (same_new hp)) (fz_newT (fun a => st1.fresh) hp (fz_rg _ _))⟩
    · exact h.elim⟩⟩
end
end DL

set_option Elab.async false
set_option linter.all false
set_option maxRecDepth 100000
set_option maxHeartbeats 4000000
/-! DLp: from the head's facts to the law's def. -/
namespace DL
open PySem PySem.Spec PyProof.Rows L2

theorem fd_one {K : PySem.W.Frag} {x x' q q' : Str} {pa pa' : Arguments} {b b' : List Stmt} {sc sc' : Scope} {d d' : List V} {k k' : List (Str × V)} {f : Addr} {fd fd' : FuncData} (F : FunD K x q pa b sc d k f fd) (F' : FunD K x' q' pa' b' sc' d' k' f fd') : fd = fd' := by
  obtain ⟨_, _, _, _, _, _, _, _, _, _, rfl, h, _⟩ := F.ex
  obtain ⟨_, _, _, _, _, _, _, _, _, _, rfl, h', _⟩ := F'.ex
  rw [h] at h'
  cases h'
  rfl
theorem lawF {P : Program} {w : World} {top : Nat → Stmt} {ds : List (Str × Nat)} {fr : List Str} {cs : List (Str × PD)} {k i j : Nat} {x p : Str} {F : List D → M D} (hi : ds[i]? = some (x, j))
    (hd : ∀ (K : PySem.W.Frag) (mg : Str → Option Value) (base : Heap), Fc top ds fr cs K mg base → DefX P w K mg base k x (top j) [p] F)
    (hb : ∀ (kV doc pm : Value) (an : Option Addr) (cdv ct : Value) (us : List Value), us.length = [p].length → bindArgs (PySem.W.fnOf x x (defArgs (top j)) (defBody (top j)) (defScope (top j)) .none kV doc pm an cdv ct) ⟨us, []⟩ = pure ([p].zip us))
    {h : Heap} {mg : Str → Option Value} {fa : Addr} (Y : ∃ K : PySem.W.Frag, K.In h ∧ He.SaysD (mkFa ds fr) (mkFn top ds) K ∧ cs.all (conB K) = true) (G : h.Ns mainGlobals mg) (hmg : mg x = some (.ref fa)) :
    ∃ (K : PySem.W.Frag) (fd : FuncData), K.In h ∧ (∀ (s : Shared) (u : Value), BindsTo s fd ⟨[u], []⟩ [(p, u)]) ∧
      ∀ base : Heap, K.In base → base.Ns mainGlobals mg → FnG P w K mg base k fa fd [p] (spD mg K 1 F) := by
  obtain ⟨K, KX, c, cc⟩ := Y
  obtain ⟨f, fd, Fd, g⟩ := (Fc.mk KX G c cc : Fc top ds fr cs K mg h).def_ i hi
  rw [hmg] at g; cases g
  refine ⟨K, fd, KX, fun s u => FunD.bindsA (ps := [p]) Fd hb s [u] rfl, fun base kb nb => ?_⟩
  obtain ⟨f', fd', Fd', g', GG⟩ := hd K mg base ⟨kb, nb, c, cc⟩
  rw [hmg] at g'; cases g'
  cases fd_one Fd Fd'
  exact GG
end DL

set_option Elab.async false
set_option linter.all false
set_option maxRecDepth 100000
set_option maxHeartbeats 4000000
/-! DLq: plain laws' common ground: loops by data. -/
namespace DL
open PySem PySem.Spec PyProof.Rows L2

theorem fnM_ret {nl : Nat} {keep : Bool} {b : MS} {ds : List D} {S S' : Store} {p : PD} (h : b (ds.map some ++ List.replicate nl none) S = .ok (.ret (.dat p)) S') : fnM nl keep b ds S = .ok (.dat p) (S'.take S.length) := by
  unfold fnM; rw [h]; rfl
theorem mulP_int {i j : Int} (h : i.natAbs < 2 ^ 400000) (h2 : j.natAbs < 2 ^ 400000) : mulP (.int i) (.int j) = some (.int (i * j)) := by
  have a := PySem.Flt.log2_lt_of (n := i.natAbs) (k := 400000) (by omega) h
  have b := PySem.Flt.log2_lt_of (n := j.natAbs) (k := 400000) (by omega) h2
  simp only [mulP]
  rw [if_pos (by omega)]
theorem mulP_small {i j : Int} (h : i.natAbs < 2 ^ 64) (h2 : j.natAbs < 2 ^ 64) : mulP (.int i) (.int j) = some (.int (i * j)) := by
  have a := PySem.Flt.log2_lt_of (n := i.natAbs) (k := 64) (by omega) h
  have b := PySem.Flt.log2_lt_of (n := j.natAbs) (k := 64) (by omega) h2
  simp only [mulP]
  rw [if_pos (by omega)]
theorem modP_pos {i j : Int} (h : 0 < j) : modP (.int i) (.int j) = some (.int (i % j)) := by
  simp only [modP]
  rw [if_pos (by omega), Int.fmod_eq_emod_of_nonneg _ (by omega)]
theorem fdivP_pos {i j : Int} (h : 0 < j) (h2 : j.natAbs < 2 ^ 64) : fdivP (.int i) (.int j) = some (.int (i / j)) := by
  have b := PySem.Flt.log2_lt_of (n := j.natAbs) (k := 64) (by omega) h2
  simp only [fdivP]
  rw [if_pos ⟨by omega, by omega⟩, Int.fdiv_eq_ediv_of_nonneg _ (by omega)]
theorem eqOk_nil (xs : List PD) (n : Nat) : eqOk (n + 1) (.list xs) (.list []) = true := by
  cases xs <;> simp [eqOk, eqOk.go]
theorem eqP_nil (xs : List PD) : eqP (.list xs) (.list []) = some (.bool xs.isEmpty) := by
  unfold eqP
  rw [if_pos (eqOk_nil xs 59)]
  cases xs <;> simp [PyData.eqv, PyData.eqvAll]
theorem eqP_int (i j : Int) : eqP (.int i) (.int j) = some (.bool (i == j)) := by
  simp [eqP, eqOk, PyData.eqv]
theorem neP_int (i j : Int) : neP (.int i) (.int j) = some (.bool (!(i == j))) := by
  simp [neP, eqOk, PyData.eqv]
theorem eqP_str (i j : Str) : eqP (.str i) (.str j) = some (.bool (i == j)) := by
  simp [eqP, eqOk, PyData.eqv]
theorem neP_str (i j : Str) : neP (.str i) (.str j) = some (.bool (!(i == j))) := by
  simp [neP, eqOk, PyData.eqv]
/-! ### loops -/
theorem lcLoop_map {src : Src} {g : D → DEnv → M DEnv} {fe : DEnv → M D} {δ : DEnv} {S : Store} {f : PD → PD} (hs : src.cs = []) : ∀ (ps acc : List PD), (∀ p ∈ ps, ∃ δ1, g (.dat p) δ S = .ok δ1 S ∧ fe δ1 S = .ok (.dat (f p)) S) → acc.length + ps.length ≤ sizeLine →
    lcLoop src g yesT fe δ ps acc S = .ok (acc ++ ps.map f) S
  | [], acc, _, _ => by
    simp only [lcLoop]
    rw [if_pos (by intro q hq; rw [hs] at hq; cases hq)]
    simp
  | p :: ps, acc, h, hz => by
    obtain ⟨δ1, h1, h2⟩ := h p List.mem_cons_self
    simp only [lcLoop]
    rw [if_pos (by intro q hq; rw [hs] at hq; cases hq), h1]
    simp only [okB, yesT, if_true, h2, datD, opt, R.bind]
    simp only [List.length_cons] at hz
    rw [if_pos (by omega), lcLoop_map hs ps (acc ++ [f p]) (fun q hq => h q (List.mem_cons_of_mem _ hq)) (by rw [List.length_append]; simp only [List.length_cons, List.length_nil]; omega)]
    simp
theorem lcLoop_filter {src : Src} {g : D → DEnv → M DEnv} {ft : DEnv → M Bool} {fe : DEnv → M D} {δ : DEnv} {S : Store} {k : PD → Bool} (hs : src.cs = []) : ∀ (ps acc : List PD), (∀ p ∈ ps, ∃ δ1, g (.dat p) δ S = .ok δ1 S ∧ ft δ1 S = .ok (k p) S ∧ fe δ1 S = .ok (.dat p) S) → acc.length + ps.length ≤ sizeLine →
    lcLoop src g ft fe δ ps acc S = .ok (acc ++ ps.filter k) S
  | [], acc, _, _ => by
    simp only [lcLoop]
    rw [if_pos (by intro q hq; rw [hs] at hq; cases hq)]
    simp
  | p :: ps, acc, h, hz => by
    obtain ⟨δ1, h1, h2, h3⟩ := h p List.mem_cons_self
    simp only [lcLoop]
    rw [if_pos (by intro q hq; rw [hs] at hq; cases hq), h1]
    simp only [okB, h2, h3, datD, opt, R.bind]
    simp only [List.length_cons] at hz
    cases hk : k p with
    | true =>
      rw [if_pos rfl, if_pos (by omega), lcLoop_filter hs ps (acc ++ [p]) (fun q hq => h q (List.mem_cons_of_mem _ hq)) (by rw [List.length_append]; simp only [List.length_cons, List.length_nil]; omega)]
      simp [hk]
    | false =>
      rw [if_neg (by decide), lcLoop_filter hs ps acc (fun q hq => h q (List.mem_cons_of_mem _ hq)) (by omega)]
      simp [hk]
/-- what comes of it is as Q says, what stands is as Inv says -/
theorem lcLoop_all {src : Src} {g : D → DEnv → M DEnv} {ft : DEnv → M Bool} {fe : DEnv → M D} {δ : DEnv} (Inv : Store → Prop) (Q : PD → Prop) (hok : ∀ S, Inv S → src.ok S) : ∀ (ps acc : List PD) (S : Store), (∀ p ∈ ps, ∀ S, Inv S →
      (∃ δ1 S1 S2, g (.dat p) δ S = .ok δ1 S1 ∧ ft δ1 S1 = .ok false S2 ∧ Inv S2) ∨ ∃ δ1 S1 S2 q S3, g (.dat p) δ S = .ok δ1 S1 ∧ ft δ1 S1 = .ok true S2 ∧ fe δ1 S2 = .ok (.dat q) S3 ∧ Q q ∧ Inv S3) →
    Inv S → (∀ x ∈ acc, Q x) → acc.length + ps.length ≤ sizeLine → ∃ res S', lcLoop src g ft fe δ ps acc S = .ok res S' ∧ (∀ x ∈ res, Q x) ∧ Inv S' ∧ res.length ≤ acc.length + ps.length
  | [], acc, S, _, hi, ha, _ => by
    refine ⟨acc, S, ?_, ha, hi, by simp⟩
    simp only [lcLoop]
    rw [if_pos (hok S hi)]
  | p :: ps, acc, S, h, hi, ha, hz => by
    simp only [List.length_cons] at hz
    rcases h p List.mem_cons_self S hi with ⟨δ1, S1, S2, e1, e2, i2⟩ | ⟨δ1, S1, S2, q, S3, e1, e2, e3, hq, i3⟩
    · obtain ⟨res, S', e, h1, h2, h3⟩ := lcLoop_all Inv Q hok ps acc S2 (fun q hq => h q (List.mem_cons_of_mem _ hq)) i2 ha (by omega)
      refine ⟨res, S', ?_, h1, h2, by simp only [List.length_cons]; omega⟩
      simp only [lcLoop]
      rw [if_pos (hok S hi), e1]
      simp only [okB, e2]
      rw [if_neg (by decide)]
      exact e
    · obtain ⟨res, S', e, h1, h2, h3⟩ := lcLoop_all Inv Q hok ps (acc ++ [q]) S3 (fun q hq => h q (List.mem_cons_of_mem _ hq)) i3 (fun x hx => by
        rcases List.mem_append.mp hx with z | z
        · exact ha x z
        · rw [List.mem_singleton] at z; subst z; exact hq) (by rw [List.length_append]; simp only [List.length_cons, List.length_nil]; omega)
      refine ⟨res, S', ?_, h1, h2, by rw [List.length_append] at h3; simp only [List.length_cons, List.length_nil] at h3 ⊢; omega⟩
      simp only [lcLoop]
      rw [if_pos (hok S hi), e1]
      simp only [okB, e2, e3, datD, opt, R.bind, if_true]
      rw [if_pos (by omega)]
      exact e
/-- each turn goes on -/
theorem forF_nx {src : Src} {tgt : D → DEnv → M DEnv} {body : MS} (Inv : DEnv → Store → Prop) (hok : ∀ δ S, Inv δ S → src.ok S) : ∀ (ps : List PD) (δ : DEnv) (S : Store), (∀ p ∈ ps, ∀ δ S, Inv δ S → ∃ δ1 S1 δ2 S2, tgt (.dat p) δ S = .ok δ1 S1 ∧ body δ1 S1 = .ok (.nx δ2) S2 ∧ Inv δ2 S2) → Inv δ S →
    ∃ δ' S', forF src tgt body ps δ S = .ok (.nx δ') S' ∧ Inv δ' S'
  | [], δ, S, _, hi => ⟨δ, S, by simp only [forF]; rw [if_pos (hok δ S hi)], hi⟩
  | p :: ps, δ, S, h, hi => by
    obtain ⟨δ1, S1, δ2, S2, e1, e2, i2⟩ := h p List.mem_cons_self δ S hi
    obtain ⟨δ', S', e, i'⟩ := forF_nx Inv hok ps δ2 S2 (fun q hq => h q (List.mem_cons_of_mem _ hq)) i2
    refine ⟨δ', S', ?_, i'⟩
    simp only [forF]
    rw [if_pos (hok δ S hi), e1]
    simp only [e2]
    exact e
/-- one by one, with the items ahead -/
theorem forF_step {src : Src} {tgt : D → DEnv → M DEnv} {body : MS} {p : PD} {ps : List PD} {δ δ1 δ2 : DEnv} {S S1 S2 : Store} (hok : src.ok S) (h1 : tgt (.dat p) δ S = .ok δ1 S1) (h2 : body δ1 S1 = .ok (.nx δ2) S2) : forF src tgt body (p :: ps) δ S = forF src tgt body ps δ2 S2 := by
  simp only [forF]
  rw [if_pos hok, h1]
  simp only [h2]
theorem forF_ret {src : Src} {tgt : D → DEnv → M DEnv} {body : MS} {p : PD} {ps : List PD} {δ δ1 : DEnv} {S S1 S2 : Store} {d : D} (hok : src.ok S) (h1 : tgt (.dat p) δ S = .ok δ1 S1) (h2 : body δ1 S1 = .ok (.ret d) S2) : forF src tgt body (p :: ps) δ S = .ok (.ret d) S2 := by
  simp only [forF]
  rw [if_pos hok, h1]
  simp only [h2]
theorem forF_nil {src : Src} {tgt : D → DEnv → M DEnv} {body : MS} {δ : DEnv} {S : Store} (hok : src.ok S) : forF src tgt body [] δ S = .ok (.nx δ) S := by
  simp only [forF]
  rw [if_pos hok]
theorem ok_nil {ds : List PD} {S : Store} : (Src.mk ds []).ok S := fun q hq => by cases hq
end DL

set_option Elab.async false
set_option linter.all false
set_option maxRecDepth 100000
set_option maxHeartbeats 4000000
/-! DLr: what is shown, by sizes. -/
namespace DL
open PySem PySem.Spec PyProof.Rows L2

theorem fnM_dat {nl : Nat} {keep : Bool} {b : MS} {ds : List D} {S S' : Store} {p : PD} (h : b (ds.map some ++ List.replicate nl none) S = .ok (.ret (.dat p)) S') (hl : S'.length = S.length) : fnM nl keep b ds S = .ok (.dat p) S' := by
  rw [fnM_ret h, ← hl, List.take_length]
/-- what is needed of a thing that is shown: B signs a leaf, d deep, n heavy; c: without lists, else without dicts -/
structure Shw (B : Nat) (c : Bool) (d n : Nat) (v : PD) : Prop where
  a : v.showable = true
  b : v.leavesShort B = true
  d : v.depth ≤ d
  w : v.weight ≤ n
  h : if c = true then hasLst v = false else v.hasDict = false
theorem Shw.all {B : Nat} {c : Bool} {d n : Nat} : ∀ {ds : List PD}, (∀ x ∈ ds, Shw B c d n x) → PyData.showableAll ds = true ∧ PyData.leavesShortAll B ds = true ∧ PyData.depthAll ds ≤ d ∧ PyData.weightAll ds ≤ ds.length * (n + 1) ∧ (if c = true then hasLstAll ds = false else PyData.hasDictAll ds = false)
  | [], _ => ⟨rfl, rfl, by simp [PyData.depthAll], by simp [PyData.weightAll], by cases c <;> rfl⟩
  | x :: xs, h => by
    obtain ⟨i1, i2, i3, i4, i5⟩ := Shw.all (ds := xs) fun y hy => h y (List.mem_cons_of_mem _ hy)
    obtain ⟨h1, h2, h3, h4, h5⟩ := h x List.mem_cons_self
    refine ⟨by simp [PyData.showableAll, h1, i1], by simp [PyData.leavesShortAll, h2, i2], by simp only [PyData.depthAll]; omega, ?_, ?_⟩
    · simp only [PyData.weightAll, List.length_cons, Nat.succ_mul]; omega
    · cases c with
      | true => simp only [if_true] at h5 i5 ⊢; simp [hasLstAll, h5, i5]
      | false => simp at h5 i5 ⊢; simp [PyData.hasDictAll, h5, i5]
theorem Shw.tup {B : Nat} {c : Bool} {d n L : Nat} {ds : List PD} (h : ∀ x ∈ ds, Shw B c d n x) (hl : ds.length ≤ L) : Shw B c (d + 1) (L * (n + 1)) (.tuple ds) := by
  obtain ⟨i1, i2, i3, i4, i5⟩ := Shw.all h
  refine ⟨by simpa [PyData.showable] using i1, by simpa [PyData.leavesShort] using i2, by simp only [PyData.depth]; omega, ?_, ?_⟩
  · simp only [PyData.weight]
    exact Nat.le_trans i4 (Nat.mul_le_mul_right _ hl)
  · cases c <;> simpa [hasLst, PyData.hasDict] using i5
theorem Shw.lst {B : Nat} {d n L : Nat} {ds : List PD} (h : ∀ x ∈ ds, Shw B false d n x) (hl : ds.length ≤ L) : Shw B false (d + 1) (L * (n + 1)) (.list ds) := by
  obtain ⟨i1, i2, i3, i4, i5⟩ := Shw.all h
  refine ⟨by simpa [PyData.showable] using i1, by simpa [PyData.leavesShort] using i2, by simp only [PyData.depth]; omega, ?_, ?_⟩
  · simp only [PyData.weight]
    exact Nat.le_trans i4 (Nat.mul_le_mul_right _ hl)
  · simpa [PyData.hasDict] using i5
theorem Shw.more {B : Nat} {c : Bool} {d d' n n' : Nat} {v : PD} (h : Shw B c d n v) (h1 : d ≤ d') (h2 : n ≤ n') : Shw B c d' n' v := ⟨h.a, h.b, Nat.le_trans h.d h1, Nat.le_trans h.w h2, h.h⟩
theorem Shw.ok {B : Nat} {c : Bool} {d n : Nat} {v : PD} (h : Shw B c d n v) (hB : 8 ≤ B) (hd : d ≤ 60) (hn : (B + 2) * n + B ≤ 16777216) : showOk v = true := by
  obtain ⟨h1, h2, h3, h4, h5⟩ := h
  have q := PyData.shown_le B hB v h2
  have q2 : (B + 2) * v.weight ≤ (B + 2) * n := Nat.mul_le_mul_left _ h4
  unfold showOk
  simp only [Bool.and_eq_true, decide_eq_true_eq, Bool.or_eq_true, Bool.not_eq_true']
  refine ⟨⟨⟨h1, ?_⟩, by omega⟩, by rw [sizeLine_eq]; omega⟩
  cases c with
  | true => right; simpa using h5
  | false => left; simpa using h5
theorem num_len (n : Nat) : (Str.ofString (toString (n : Int))).length = (Nat.toDigits 10 n).length := by
  have e := text_ofNat n
  show (Str.ofString (toString (Int.ofNat n))).length = _
  rw [e]
  simp [Str.length]
theorem int_len {k : Nat} (hk : 1 ≤ k) (i : Int) (h : i.natAbs < 10 ^ k) : (PyData.shown (.int i)).length ≤ k + 1 := by
  show (Str.ofString (toString i)).length ≤ k + 1
  cases i with
  | ofNat n =>
    have e := num_len n
    show (Str.ofString (toString ((n : Nat) : Int))).length ≤ k + 1
    rw [e]
    have := digits10_le (k := k) (n := n) hk h
    omega
  | negSucc n =>
    have e : toString (Int.negSucc n) = "-" ++ Nat.repr (n + 1) := rfl
    rw [e]
    have := digits10_le (k := k) (n := n + 1) hk h
    have e2 : (Str.ofString ("-" ++ Nat.repr (n + 1))).length = 1 + (Nat.toDigits 10 (n + 1)).length := by
      simp [Str.ofString_eq_toList, Str.length, Nat.repr]; omega
    rw [e2]; omega
theorem Shw.int {c : Bool} {i : Int} (h : i.natAbs < 2 ^ 190) : Shw 60 c 0 200 (.int i) := by
  have hl := PySem.Flt.log2_lt_of (n := i.natAbs) (k := 190) (by omega) h
  have il := int_len (k := 58) (by omega) i (Nat.lt_trans h (by decide))
  refine ⟨by simp [PyData.showable]; omega, by simp [PyData.leavesShort]; omega, by simp [PyData.depth], ?_, by cases c <;> rfl⟩
  simp only [PyData.weight]
  split <;> omega
theorem Shw.bool {B : Nat} {c : Bool} {n : Nat} (b : Bool) : Shw B c 0 n (.bool b) := ⟨rfl, rfl, by simp [PyData.depth], by simp [PyData.weight], by cases c <;> rfl⟩
theorem Shw.non {B : Nat} {c : Bool} {n : Nat} : Shw B c 0 n .none := ⟨rfl, rfl, by simp [PyData.depth], by simp [PyData.weight], by cases c <;> rfl⟩
end DL

set_option Elab.async false
set_option linter.all false
set_option maxRecDepth 100000
set_option maxHeartbeats 4000000
/-! DLs: enumerate, slices backwards, dicts that never change. -/
namespace DL
open PySem PySem.Spec PyProof.Rows L2

/-! ### enumerate(a list or a tuple) -/
set_option maxHeartbeats 4000000 in
theorem enum_made {v : Value} {ob : Obj} {Hh : Heap → Prop} (Bg : Begins v ob Hh) :
    Meets (Builtin.«enumerate.__new__» ⟨[.type "enumerate", v], []⟩) (fun _ R s => Hh s.heap ∧
      R (.ok (.ret (.ref (s.heap.push ob).objs.size))) { s with heap := (s.heap.push ob).push { cls := .type "enumerate", data := .fields #[.none, .bool false, .ref s.heap.objs.size, rawInt 0, .none, .none] } }) :=
  .of_wp fun prog w A R st0 z => by
    obtain ⟨hp, gn, dr, tks, os⟩ := st0
    obtain ⟨z1, z⟩ := z
    have isSub := sub_enumerate
    have itr : ∀ {A2 : Around} {E2 : Value → Shared → Prop} {Q2 : Value → Shared → Prop}, Q2 (.ref hp.objs.size) ⟨hp.push ob, gn, dr, tks, os⟩ → wpAny (model prog w) A2 (pyIter v) Q2 E2 ⟨hp, gn, dr, tks, os⟩ :=
      fun q2 => Bg.iter prog w _ _ ⟨hp, gn, dr, tks, os⟩ _ z1 q2
    wp_walk using itr
    refine wpAny_stack_any fun stk => wpAny_pure ?_
    split
    · rename_i cc _ _ _ _ _
      cases (cc == Value.type "enumerate")
      · wp_walk using itr
        exact ⟨_, rfl, z⟩
      · wp_walk using itr
        exact ⟨_, rfl, z⟩
    · wp_walk using itr
      exact ⟨_, rfl, z⟩
section
variable {prog : Program} {w : World} {A : Around} {E : Value → Shared → Prop} {s : Shared}
theorem enum_call {v : Value} {ob : Obj} {Hh : Heap → Prop} {Q : Value → Shared → Prop} (Bg : Begins v ob Hh) (h1 : Hh s.heap)
    (h : ∀ g', IsEnum g' (s.heap.objs.size + 1) s.heap.objs.size 0 .none → g'.get? s.heap.objs.size = some ob → (∀ b o, s.heap.get? b = some o → g'.get? b = some o) → Q (.ref (s.heap.objs.size + 1)) { s with heap := g' }) :
    wpAny (model prog w) A (call (.type "enumerate") [v]) Q E s := by
  refine callType_new F.called_enumerate (by decide) (F.typeCall_enumerate_1 _) (F.newCall_enumerate_1 _) (fun q => F.args_object_init_2 q _) F.entry_enumerate_new (enum_made Bg) ⟨h1, ?_⟩
  have size1 : (s.heap.push ob).objs.size = s.heap.objs.size + 1 := Heap.size_push ..
  show _ ∧ _
  rw [size1]
  have made : IsEnum ((s.heap.push ob).push { cls := .type "enumerate", data := .fields #[.none, .bool false, .ref s.heap.objs.size, rawInt 0, .none, .none] }) (s.heap.objs.size + 1) s.heap.objs.size 0 .none := by
    have z := Heap.get?_push_size (s.heap.push ob) (o := { cls := .type "enumerate", data := .fields #[.none, .bool false, .ref s.heap.objs.size, rawInt 0, .none, .none] }) rfl
    rw [size1] at z; exact z
  exact ⟨⟨_, made, rfl⟩, h _ made (Heap.get?_push_of_some _ (Heap.get?_push_size _ Bg.free)) fun b o e => Heap.get?_push_of_some _ (Heap.get?_push_of_some _ e)⟩
end
/-- the tuple at a, each item in a new pair -/
def IteT (K : PySem.W.Frag) (a : Addr) : It :=
  ⟨fun i H => ∃ (xs : List V) (x : V), SqT K H a xs ∧ xs[i]? = some x, fun i H v H' => ∃ T x, v = .ref T ∧ H T = none ∧ H' = upd H T (.tup [.int (i : Nat), x]) ∧ ∀ ys, SqT K H a ys → ys[i]? = some x, fun i H => ∃ xs : List V, SqT K H a xs ∧ xs.length = i⟩
theorem turn_enumT {P : Program} {w : World} {K : PySem.W.Frag} {elts : List Expr} {kk : Nat} {tpos : Pos} (a e it : Addr) :
    L2.Turn P w K (.Tuple elts kk tpos) (IteT K a) [e, it] e (fun i h => (∃ old, IsEnum h e it ((i : Nat) : Int) old) ∧ h.IsTupleIter it a i ∧ e ≠ it) where
  mem := List.mem_cons_self
  obj := fun i h st b hb => by
    obtain ⟨⟨old, q1⟩, ⟨o, q2, _, q3⟩, _⟩ := st
    rcases (show b = e ∨ b = it by simpa using hb) with z | z
    · subst z; exact ⟨_, q1, fun _ y => nomatch y⟩
    · subst z; exact ⟨o, q2, fun _ y => by rw [q3] at y; cases y⟩
  keep := fun i h h' st k => ⟨⟨st.1.choose, k e List.mem_cons_self _ st.1.choose_spec⟩, st.2.1.at fun o q => k it (List.mem_cons_of_mem _ List.mem_cons_self) o q, st.2.2⟩
  item := by
    intro X e1 e2 e3 calm i pins s σ H E I far st go
    subst e1 e2 e3
    obtain ⟨⟨old, isE⟩, isI, ne⟩ := st
    obtain ⟨xs, x, sq, hx⟩ := go
    obtain ⟨its, rv, tp, zz⟩ := I.tuple sq
    obtain ⟨u, hu, ru⟩ := rv.get hx
    have tp' : s.heap.IsTuple a its.toArray := tp
    have ltE : e < s.heap.objs.size := Heap.lt_size isE
    have ltI : it < s.heap.objs.size := by obtain ⟨_, q, _⟩ := isI; exact Heap.lt_size q
    have neA : a ≠ it := fun z => by
      obtain ⟨o1, a1, a2, _⟩ := tp'
      obtain ⟨o2, b1, b2, _⟩ := isI
      rw [← z, a1] at b1; cases b1
      rw [a2] at b2
      exact absurd b2 (by decide)
    have neE : e ∉ [it, a] := fun z => by
      rcases (show e = it ∨ e = a by simpa using z) with z | z
      · exact ne z
      · obtain ⟨o1, a1, a2, _⟩ := tp'
        rw [← z, isE] at a1; cases a1
        exact absurd (show Value.type "enumerate" = Value.type "tuple" from a2) (by decide)
    refine wpAny_pyNext_enum_itemD (Draws.tuple (A := X.A.in1) (I.ok.hd calm) it a neA its.toArray) isE ⟨isI, tp'⟩ (by have := (List.getElem?_eq_some_iff.mp hu).1; simpa using this) ne neE fun y g' tk hy isO st' hT hsz hk => ?_
    have ey : y = u := by
      have : its[i]? = some y := by simpa using hy
      rw [hu] at this; cases this; rfl
    subst ey
    refine ⟨_, rfl, wpAny_letOwnedTupleGo_enum (s := { s with heap := g', toks := tk + 1 }) isO fun g'' isE' sb => ?_⟩
    have at2 : g''.get? s.heap.objs.size = some { cls := .type "tuple", data := .seq #[.int i tk, y] } := (sb.2 _ (Nat.ne_of_gt ltE)).trans hT
    have laid : ObjOk X.prog X.w (upd H s.heap.objs.size (.tup [.int (i : Nat), x])) g'' s.heap.objs.size (.tup [.int (i : Nat), x]) :=
      ⟨by show 2 ≤ sizeLine; decide, [.int i tk, y], .cons ⟨_, rfl⟩ (.cons ru .nil), ⟨_, at2, rfl, _, rfl⟩⟩
    have I1 : Inv X pins σ (upd H s.heap.objs.size (.tup [.int (i : Nat), x])) { s with heap := g'', toks := tk + 1 } :=
      I.turnedNew (ch := [e, it]) (fun b o hb q => (sb.2 b (fun z => hb (by simp [z]))).trans (hk b o (fun z => hb (by simp [z])) (fun z => hb (by simp [z])) q)) far (Nat.le_refl _) laid
    refine ⟨.ref s.heap.objs.size, _, I1, rfl, ⟨_, x, rfl, I.hok.fresh (Nat.le_refl _), rfl, fun ys hy => by rw [I.tuple_inj hy sq]; exact hx⟩, ⟨⟨y, ?_⟩, st'.1.at fun o q => (sb.2 it (Ne.symm ne)).trans q, ne⟩, fun b hb => ?_⟩
    · rw [show ((i + 1 : Nat) : Int) = (i : Int) + 1 by omega]; exact isE'
    · have lt : b < s.heap.objs.size := by
        rcases (show b = e ∨ b = it by simpa using hb) with z | z
        · subst z; exact ltE
        · subst z; exact ltI
      rw [upd_ne (Nat.ne_of_lt lt)]
      exact (far b hb).1
  done := by
    intro X e1 e2 e3 calm i pins s σ H E I far st go
    subst e1 e2 e3
    obtain ⟨⟨old, isE⟩, isI, ne⟩ := st
    obtain ⟨xs, sq, hx⟩ := go
    obtain ⟨its, rv, tp, zz⟩ := I.tuple sq
    have tp' : s.heap.IsTuple a its.toArray := tp
    have neA : a ≠ it := fun z => by
      obtain ⟨o1, a1, a2, _⟩ := tp'
      obtain ⟨o2, b1, b2, _⟩ := isI
      rw [← z, a1] at b1; cases b1
      rw [a2] at b2
      exact absurd b2 (by decide)
    obtain ⟨f0, f1, f2, f3, f4, f5⟩ := far it (List.mem_cons_of_mem _ List.mem_cons_self)
    have ln := rv.length
    exact wpAny_pyNext_enum_endD (Draws.tuple (A := X.A.in1) (I.ok.hd calm) it a neA its.toArray) isE (by rw [List.size_toArray, ← ln, hx]; exact ⟨isI, tp'⟩) fun g' eb => ⟨rfl, I.turned (t' := s.toks) (fun b o hb q => eb b o hb q) f0 f1 f3 f4 f5⟩
  self := fun A i s Q E st h => wpAny_pyIter_enum st.1.choose_spec h
/-- enumerate of a list or a tuple -/
def iEnumA (K : PySem.W.Frag) (ta : TA) : TI := fun σ H R => ta σ H fun vs H1 => ∃ a, vs = [.ref a] ∧ ((∃ xs, SqL K H1 a xs ∧ R (Ite K a) H1) ∨ ∃ xs, SqT K H1 a xs ∧ R (IteT K a) H1)
theorem pi_enumA {X : Cx} {e : Expr} {ta : TA} {p pos tpos : Pos} {elts : List Expr} {kk : Nat} (hg : Gl X "enumerate") (hm : X.mg "enumerate" = none) (ha : PA X [e] ta) (hs : starEach [e] X.env = [(false, eval e X.env)]) :
    PI X (.Tuple elts kk tpos) (.Call (.Name "enumerate" p) [e] [] pos) (iEnumA X.K ta) := by
  refine ⟨fun pins s σ H R I h => ?_⟩
  refine Call_ (ld_blt I hg hm boot_enumerate (PyProof.Rows.callWith_type1 (thn (ha.run pos pins s σ H _ I h) fun us s1 ⟨vs, H1, I1, r1, q1⟩ => ?_) hs rfl))
  obtain ⟨a, ev, q⟩ := q1
  subst ev
  cases r1 with
  | cons r rr =>
    cases rr
    cases r
    have fresh2 : ∀ g' : Heap, ∀ b ∈ [s1.heap.objs.size + 1, s1.heap.objs.size], FpOk X pins H1 b := fun _ b hb => by
      have le : s1.heap.objs.size ≤ b := by
        rcases (show b = s1.heap.objs.size + 1 ∨ b = s1.heap.objs.size by simpa using hb) with z | z
        · rw [z]; exact Nat.le_add_right _ _
        · rw [z]; exact Nat.le_refl _
      exact I1.fpOk le (I1.hok.fresh le)
    rcases q with ⟨xs, sq, q⟩ | ⟨xs, sq, q⟩
    · obtain ⟨its, rv, tp, zz⟩ := I1.list sq
      refine enum_call (begins_list a its.toArray) tp.isList fun g' isE isI hk => wpAny_pyIter_enum isE ?_
      have I2 : Inv X pins σ H1 { s1 with heap := g' } := I1.kept (t' := s1.toks) hk
      exact ⟨s1.heap.objs.size + 1, [s1.heap.objs.size + 1, s1.heap.objs.size], _, _, H1, rfl, I2, turn_enum a (s1.heap.objs.size + 1) s1.heap.objs.size, ⟨⟨.none, isE⟩, ⟨_, isI, rfl, rfl⟩, Nat.succ_ne_self _⟩, fresh2 g', q⟩
    · obtain ⟨its, rv, tp, zz⟩ := I1.tuple sq
      refine enum_call (begins_tuple a its.toArray) tp fun g' isE isI hk => wpAny_pyIter_enum isE ?_
      have I2 : Inv X pins σ H1 { s1 with heap := g' } := I1.kept (t' := s1.toks) hk
      exact ⟨s1.heap.objs.size + 1, [s1.heap.objs.size + 1, s1.heap.objs.size], _, _, H1, rfl, I2, turn_enumT a (s1.heap.objs.size + 1) s1.heap.objs.size, ⟨⟨.none, isE⟩, ⟨_, isI, rfl, rfl⟩, Nat.succ_ne_self _⟩, fresh2 g', q⟩
def enumL : Nat → List PD → List PD
  | _, [] => []
  | i, p :: ps => .tuple [.int (i : Nat), p] :: enumL (i + 1) ps
theorem enumL_get : ∀ {ps : List PD} {k i : Nat} {r : PD}, (enumL k ps)[i]? = some r → ∃ p, ps[i]? = some p ∧ r = .tuple [.int ((k + i : Nat) : Int), p]
  | [], _, _, _, h => by simp [enumL] at h
  | p :: ps, k, 0, r, h => by simp [enumL] at h; exact ⟨p, rfl, by simpa using h.symm⟩
  | p :: ps, k, i + 1, r, h => by
    obtain ⟨q, h1, h2⟩ := enumL_get (ps := ps) (k := k + 1) (i := i) (r := r) (by simpa [enumL] using h)
    exact ⟨q, by simpa using h1, by rw [h2, show k + 1 + i = k + (i + 1) by omega]⟩
theorem enumL_len : ∀ (ps : List PD) (k : Nat), (enumL k ps).length = ps.length
  | [], _ => rfl
  | p :: ps, k => by simp [enumL, enumL_len ps]
def enumV (S : Store) : List D → Option Src
  | [d] => match derefD S d with
    | some (.list ps) => some ⟨enumL 0 ps, csD S d⟩
    | some (.tuple ps) => some ⟨enumL 0 ps, []⟩
    | _ => none
  | _ => none
def enumI (fa : DEnv → M (List D)) : DEnv → M Src := fun δ S => (fa δ S).bind fun ds S1 => (opt (enumV S1 ds) S1).bind fun src S1 => .ok src S1
theorem si_enum {X : Cx} {W : WX} {e : Expr} {fa : DEnv → M (List D)} {p pos tpos : Pos} {elts : List Expr} {kk : Nat} (hg : Gl X "enumerate") (hm : X.mg "enumerate" = none) (ha : SA X W [e] fa)
    (hs : starEach [e] X.env = [(false, eval e X.env)]) : SI X W (.Tuple elts kk tpos) (.Call (.Name "enumerate" p) [e] [] pos) (enumI fa) :=
  ⟨PI.imp (pi_enumA hg hm ha.pa hs) fun σ H R ⟨δ, w, S, env, st, h⟩ => ⟨δ, w, S, env, st, PostG.bind h fun vs H1 w1 ds S1 e1 st1 rs h => by
    obtain ⟨src, hsrc, h⟩ := h.opt
    unfold enumV at hsrc
    split at hsrc
    · rename_i d
      cases rs with
      | cons r1 rs =>
        cases rs
        split at hsrc
        · rename_i ps h1
          cases hsrc
          have l1 := fun H' w' S' f st' ok => list_at (H' := H') (w' := w') (S' := S') st1 r1 h1 f st' ok
          have own : ∀ q ∈ csD S1 d, S1[q.1]? = some q.2 := fun q hq => by
            cases d with
            | dat p => simp [csD] at hq
            | ref n =>
              unfold csD at hq
              simp only [] at hq
              cases hn : S1[n]? with
              | none => rw [hn] at hq; simp at hq
              | some z => rw [hn] at hq; simp at hq; subst hq; exact hn
          obtain ⟨a, xs, rfl, q1, f1⟩ := l1 H1 w1 S1 (Ext.refl _ _).far st1 own
          refine ⟨a, rfl, .inl ⟨xs, q1, h.ok (.refl _ _) st1 fun H' w' S' f st' ok => ?_⟩⟩
          obtain ⟨a', xs', ea, k1, g1⟩ := l1 H' w' S' f st' ok
          cases ref_inj ea
          refine ⟨fun i r hr => ?_, xs', k1, by rw [g1.length, enumL_len]; exact Nat.le_refl _⟩
          obtain ⟨p', hp, rfl⟩ := enumL_get hr
          obtain ⟨u1, hu1, fu1⟩ := g1.get' hp
          refine ⟨⟨xs', u1, k1, hu1⟩, fun x H'' ⟨T, x1, e1, hT, e2, m1⟩ => ?_⟩
          subst e1; subst e2
          have z1 := m1 xs' k1
          rw [hu1] at z1; cases z1
          rw [Nat.zero_add]
          exact fz_pair st' hT (.int _) fu1
        · rename_i ps h1
          cases hsrc
          obtain ⟨a, xs, rfl, q1, f1⟩ := (Now.of st1 r1 h1).tup
          refine ⟨a, rfl, .inr ⟨xs, q1.seq, h.ok (.refl _ _) st1 fun H' w' S' f st' ok => ?_⟩⟩
          have k1 := (q1.mono f.mono).seq
          have g1 := f1.mono f.mono
          refine ⟨fun i r hr => ?_, xs, k1, by rw [g1.length, enumL_len]⟩
          obtain ⟨p', hp, rfl⟩ := enumL_get hr
          obtain ⟨u1, hu1, fu1⟩ := g1.get' hp
          refine ⟨⟨xs, u1, k1, hu1⟩, fun x H'' ⟨T, x1, e1, hT, e2, m1⟩ => ?_⟩
          subst e1; subst e2
          have z1 := m1 xs k1
          rw [hu1] at z1; cases z1
          rw [Nat.zero_add]
          exact fz_pair st' hT (.int _) fu1
        · cases hsrc
    · cases hsrc⟩⟩
end DL

set_option Elab.async false
set_option linter.all false
set_option maxRecDepth 100000
set_option maxHeartbeats 4000000
namespace DL
open PySem PySem.Spec PyProof.Rows L2
section
variable {prog : Program} {w : World} {A : Around} {E : Value → Shared → Prop} {s : Shared}
theorem back_parts {sl : Addr} {vs : Value} {n : Nat} {Q : Int × Int × Nat → Shared → Prop} (hs : s.heap.IsSliceOf sl .none .none vs) (ps : IsPart vs (some (-1)))
    (h : Q ((n : Int) - 1, -1, n) s) : wpAny (model prog w) A (Builtin.Slice.sliceApplied (.ref sl) (pure (n : Int))) Q E s := by
  obtain ⟨ob, q1, q2, q3⟩ := id hs
  unfold Builtin.Slice.sliceApplied Builtin.Slice.sliceFields
  refine wpAny_bind (wpAny_bind (wpAny_field q1 q3 (x := .none) rfl (wpAny_bind (wpAny_field q1 q3 (x := .none) rfl (wpAny_bind (wpAny_field q1 q3 (x := vs) rfl (wpAny_pure ?_)))))))
  refine wpAny_bind (HT.slicePart_ ps ?_)
  show wpAny _ _ (if ((-1 : Int) == 0) = true then _ else _) _ _ s
  rw [if_neg (by decide)]
  refine wpAny_bind (HT.slicePart_ .none (wpAny_bind (HT.slicePart_ .none (wpAny_bind (wpAny_pure ?_)))))
  show wpAny _ _ (pure ((n : Int) - 1, (-1 : Int), Builtin.Slice.slicePlaces ((n : Int) - 1) (-1) (-1))) _ _ s
  have e : Builtin.Slice.slicePlaces ((n : Int) - 1) (-1) (-1) = n := by
    unfold Builtin.Slice.slicePlaces
    have e1 : (((n : Int) - 1 - -1 - 1) / (- -1 : Int)) = (n : Int) - 1 := by
      rw [show (- -1 : Int) = 1 by decide, Int.ediv_one]; omega
    rw [if_neg (by decide), e1]
    split <;> omega
  rw [e]
  exact wpAny_pure h
theorem back_pick (xs : Array Value) : ((List.range xs.size).filterMap fun (m : Nat) => xs[(((xs.size : Int) - 1) + (m : Int) * -1).toNat]?).toArray = xs.toList.reverse.toArray := by
  congr 1
  have e : ∀ n : Nat, n ≤ xs.size → (List.range n).filterMap (fun (m : Nat) => xs[(((xs.size : Int) - 1) + (m : Int) * -1).toNat]?) = xs.toList.reverse.take n := by
    intro n
    induction n with
    | zero => intro _; simp
    | succ n ih =>
      intro hn
      have e2 : (((xs.size : Int) - 1) + (n : Int) * -1).toNat = xs.size - 1 - n := by omega
      have lt : xs.size - 1 - n < xs.size := by omega
      rw [List.range_succ, List.filterMap_append, ih (by omega), List.take_add_one]
      congr 1
      simp only [List.filterMap_cons, List.filterMap_nil, e2, Array.getElem?_eq_getElem lt]
      rw [List.getElem?_reverse (by simpa using (show n < xs.size by omega))]
      simp [lt]
  have := e xs.size (Nat.le_refl _)
  rw [this, List.take_of_length_le (by simp)]
theorem tuple_back {t sl : Addr} {items : Array Value} {vs : Value} {Q : Value → Shared → Prop} (ht : IsTup s.heap t items) (hs : s.heap.IsSliceOf sl .none .none vs) (ps : IsPart vs (some (-1)))
    (h : Q (.ref s.heap.objs.size) { s with heap := s.heap.push { cls := .type "tuple", data := .seq items.toList.reverse.toArray } }) (hz : items.size ≤ sizeLine) : wpAny (model prog w) A (getItem (.ref t) (.ref sl)) Q E s := by
  have fits : sizeOk (.seq items.toList.reverse.toArray) := by
    show items.toList.reverse.toArray.size ≤ sizeLine
    simpa using hz
  obtain ⟨ob, q1, q2, q3⟩ := id hs
  have isS : s.TypeIs (.ref sl) "slice" := ⟨ob, q1, q2⟩
  unfold getItem
  try with_reducible refine wpAny_holding ?_
  first | refine wpAny_bind (wpAny_pure ?_) | skip
  refine wpAny_bind (wpAny_sequenceKey ht.typeIs (by decide) ?_)
  refine wpAny_bind (wpAny_callSpecial?_slot (name := Str.ofString "__getitem__") ht.typeIs PyProof.Rows.slot_tuple_getitem
    (wpAny_call_entry PyProof.Rows.slot_tuple_getitem ht.typeIs entry_tuple_getitem ?_ (args_tuple_getitem _ _)))
  show wpAny _ _ (Builtin.Tuple.tupleItemsOf (.ref t) >>= _) _ _ s
  refine wpAny_bind (tupleItemsOf_ ht ?_)
  refine wpAny_bind (wpAny_typeOf isS ?_)
  rw [if_pos (by decide)]
  refine wpAny_bind (back_parts hs ps ?_)
  show wpAny _ _ (if (((items.size : Int) - 1) == 0 && (-1 : Int) == 1 && items.size == items.size) = true then _ else _) _ _ s
  rw [if_neg (by simp), back_pick]
  first
    | exact wpAny_bind (m := Builtin.Tuple.tupleExact _) (wpAny_newObj_type (wpAny_pure ⟨_, rfl, wpAny_pure h⟩) fits)
    | exact wpAny_bind (m := Builtin.Tuple.tupleExact _) (wpAny_newObj_type (wpAny_bind (wpAny_pure (wpAny_pure ⟨_, rfl, wpAny_pure h⟩))) fits)
    | exact wpAny_bind (wpAny_bind (m := Builtin.Tuple.tupleExact _) (wpAny_newObj_type (wpAny_pure (wpAny_pure ⟨_, rfl, wpAny_pure h⟩)) fits))
    | exact wpAny_bind (wpAny_bind (m := Builtin.Tuple.tupleExact _) (wpAny_newObj_type (wpAny_pure ⟨_, rfl, wpAny_pure h⟩) fits))
end
/-- xs[::-1] -/
def BkR (X : Cx) (r : V → Hp → VK → Prop) : Prop :=
  ∀ (pins : List (Addr × Obj)) (s : Shared) (σ : L2.St) (H : Hp) (x : V) (v vs : Value) (sl : Addr) (Q : VK), L2.Inv X pins σ H s → RelV x v → s.heap.IsSliceOf sl .none .none vs → IsPart vs (some (-1)) → r x H Q →
    ∃ T id, typeLookup (.type T) "__getitem__" = pure (some (.builtin id)) ∧ s.TypeIs v T ∧ wpAny (model X.prog X.w) X.A (getItem v (.ref sl)) (EP X pins σ Q) X.xe s
def tBk (r : V → Hp → VK → Prop) (te : TE) (ts : TO) : TE := fun σ H Q => te σ H fun x H1 => ts σ H1 fun o H2 => o = some (-1) ∧ r x H2 Q
theorem pe_back {X : Cx} {e st : Expr} {te : TE} {ts : TO} {p2 pos : Pos} {r : V → Hp → VK → Prop} (hr : BkR X r) (he : PE X e te) (hst : PO X (some st) ts) : PE X (.Subscript e (.Slice none none (some st) p2) pos) (tBk r te ts) := by
  refine ⟨fun pins s σ H Q I h => ?_⟩
  refine Subscript_ (thn (he.run pins s σ H _ I h) fun v s1 ⟨x, H1, I1, r1, q1⟩ => ?_)
  refine wpAny_Slice ?_
  rw [evalPart_none]
  refine wpAny_pure (wpAny_pure (thn (hst.run pins s1 σ H1 _ I1 q1) fun vs s2 ⟨o, H2, I2, ps, eo, q2⟩ => ?_))
  subst eo
  have I3 : L2.Inv X pins σ H2 { s2 with heap := s2.heap.push { cls := .type "slice", data := .fields #[.none, .none, vs] } } := I2.kept (t' := s2.toks) fun b o e => Heap.get?_push_of_some _ e
  obtain ⟨T, id, hT, ty, hg⟩ := hr pins { s2 with heap := s2.heap.push { cls := .type "slice", data := .fields #[.none, .none, vs] } } σ H2 x v vs s2.heap.objs.size Q I3 r1 (Heap.IsSliceOf.new ..) ps q2
  show wpAny (model X.prog X.w) X.A (subscriptTail e (.Slice none none (some st) p2) v (.ref s2.heap.objs.size)) (EP X pins σ Q) X.xe { s2 with heap := s2.heap.push { cls := .type "slice", data := .fields #[.none, .none, vs] } }
  exact tail_any (ops := [v, .ref s2.heap.objs.size]) ty hT hg (by with_unfolding_all rfl)
def backP : PD → Option PD
  | .list ds => some (.list ds.reverse)
  | .tuple ds => some (.tuple ds.reverse)
  | _ => none
def rBkG (K : PySem.W.Frag) : V → Hp → VK → Prop := fun x H Q => ∃ w p r, (∀ a, H a = none → w.out a) ∧ Now K H w x p ∧ backP p = some r ∧ ∀ v H', Same H H' → Fz K H' w v r → Q v H'
theorem vals_rev {vs : List V} {us : List Value} (r : Vals vs us) : Vals vs.reverse us.reverse := by
  induction r with
  | nil => exact .nil
  | cons h t ih => rw [List.reverse_cons, List.reverse_cons]; exact ih.append (.cons h .nil)
theorem bk_dat {X : Cx} : BkR X (rBkG X.K) := by
  intro pins s σ H x v vs sl Q I rx hs ps q
  obtain ⟨w, p, r, fr, h1, h3, k⟩ := q
  unfold backP at h3
  split at h3
  · cases h3
    obtain ⟨a, xs, rfl, l, f⟩ := h1.list
    cases rx
    obtain ⟨its, rv, ht, hz⟩ := I.list l.seq
    refine ⟨"list", _, slot_list_getitem.lookup, ht.isList.typeIs, ?_⟩
    refine wpAny_getItem_list_slice ht.isList hs .none .none ps (by decide) ?_ (by rw [List.size_toArray, ← rv.length]; exact hz)
    rw [PySem.W.krv_pick]
    refine ⟨.ref s.heap.objs.size, _, I.laid (t' := s.toks) (o := .lst xs.reverse) (fun b ob q => Heap.get?_push_of_some _ q) (Nat.le_refl _) ?_, rfl, k _ _ (same_new (I.hok.fresh (Nat.le_refl _))) (fz_new fr (I.hok.fresh (Nat.le_refl _)) f.reverse)⟩
    exact ⟨by rw [List.length_reverse]; exact hz, _, 0, vals_rev rv, Heap.get?_push_size _ rfl⟩
  · cases h3
    obtain ⟨a, xs, rfl, l, f⟩ := h1.tup
    cases rx
    obtain ⟨its, rv, ht, hz⟩ := I.tuple l.seq
    refine ⟨"tuple", _, PyProof.Rows.slot_tuple_getitem.lookup, ht.typeIs, ?_⟩
    refine tuple_back ht hs ps ?_ (by rw [List.size_toArray, ← rv.length]; exact hz)
    refine ⟨.ref s.heap.objs.size, _, I.laid (t' := s.toks) (o := .tup xs.reverse) (fun b ob q => Heap.get?_push_of_some _ q) (Nat.le_refl _) ?_, rfl, k _ _ (same_new (I.hok.fresh (Nat.le_refl _))) (fz_newT fr (I.hok.fresh (Nat.le_refl _)) f.reverse)⟩
    exact ⟨by rw [List.length_reverse]; exact hz, _, vals_rev rv, IsTup.new _ _⟩
  · cases h3
def op1 (g : PD → Option PD) (fa : DEnv → M D) : DEnv → M D := fun δ S => (fa δ S).bind fun d S1 => (opt (derefD S1 d) S1).bind fun p S1 => (opt (g p) S1).bind fun r S1 => .ok (.dat r) S1
theorem se_back {X : Cx} {W : WX} {e : Expr} {fa : DEnv → M D} {p1 p2 p3 pos : Pos} {kk : Nat} (ha : SE X W e fa) : SE X W (.Subscript e (.Slice none none (some (.UnaryOp .USub (.Constant (.int 1) kk p1) p3)) p2) pos) (op1 backP fa) :=
  ⟨PE.imp (pe_back bk_dat ha.pe (po_some (pe_un un_neg pe_int))) fun σ H Q ⟨δ, w, S, env, st, h⟩ => ⟨δ, w, S, env, st, PostG.bind h fun v H1 w1 d S1 e1 st1 rv h => by
    obtain ⟨p, hp, h⟩ := h.opt
    obtain ⟨r, hr, h⟩ := h.opt
    refine ⟨_, rfl, _, rfl, rfl, w1, p, r, fun a ha => st1.fresh ha, Now.of st1 rv hp, hr, fun v H' sm fz => h.ok (.same sm) (st1.same sm) fz⟩⟩⟩

/-! ### a dict that never changes -/
def keyP : PD → Option Key
  | .int i => some (.inl i)
  | .str x => some (.inr x)
  | _ => none
def lookP (k : Key) : List (PD × PD) → Option PD
  | [] => none
  | (q, d) :: r => if keyP q = some k then some d else lookP k r
theorem keyP_kP (k : Key) : keyP (kP k) = some k := by cases k <;> rfl
theorem at_fz {K : PySem.W.Frag} {H : Hp} {w : Wd} {v : V} {d : PD} (h : AtD v d) : Fz K H w v d := by cases h <;> constructor
theorem look_of {K : PySem.W.Frag} {H : Hp} {w : Wd} {k : Key} : ∀ {kvs : List (Key × V)} {ds : List (PD × PD)}, FzD kvs ds → (lookP k ds = none ∧ valV kvs k = none) ∨ ∃ v d, lookP k ds = some d ∧ valV kvs k = some v ∧ Fz K H w v d
  | _, _, .nil => .inl ⟨rfl, rfl⟩
  | _, _, .cons (k := k') (v := v) (d := d) a q => by
    by_cases h : k' = k
    · subst h
      exact .inr ⟨v, d, by simp [lookP, keyP_kP], valV_pos rfl, at_fz a⟩
    · have e1 : ∀ r, lookP k ((kP k', d) :: r) = lookP k r := fun r => by
        simp only [lookP, keyP_kP]
        rw [if_neg (fun e => h (Option.some.inj e))]
      rw [e1, valV_neg (p := (k', v)) h]
      exact look_of q
/-- d.get(k, x) -/
def dgetE (fd fk fx : DEnv → M D) : DEnv → M D := fun δ S => (fd δ S).bind fun d S1 => match d with
  | .dat (.dict ds) => (fk δ S1).bind fun k S2 => (fx δ S2).bind fun x S3 => (opt (derefD S3 k) S3).bind fun kp S3 => match keyP kp with
    | some kk => match lookP kk ds with
      | some r => .ok (.dat r) S3
      | none => .ok x S3
    | none => .bad
  | _ => .bad
theorem keyP_inv {p : PD} {k : Key} (h : keyP p = some k) : p = kP k := by
  cases p <;> simp [keyP] at h <;> subst h <;> rfl
theorem now_key {K : PySem.W.Frag} {H : Hp} {w : Wd} {v : V} {k : Key} (h : Now K H w v (kP k)) : v = kV k := by
  cases k with
  | inl i => exact h.int
  | inr x => exact h.str
theorem se_dget {X : Cx} {W : WX} {o e f : Expr} {fd fk fx : DEnv → M D} {apos cpos : Pos} (hu : X.A.units + 1 < cLine) (ho : SE X W o fd) (he : SE X W e fk) (hf : SE X W f fx) (m : M2 X o "get" apos e f cpos) : SE X W (.Call (.Attribute o "get" apos) [e, f] [] cpos) (dgetE fd fk fx) :=
  ⟨PE.imp (pe_dget2 hu ho.pe he.pe hf.pe m) fun σ H Q ⟨δ, w, S, env, st, h⟩ => ⟨δ, w, S, env, st, PostG.bind h fun v H1 w1 d S1 e1 st1 rv h => by
    split at h
    · rename_i ds
      cases rv with
      | dic hd ow q =>
        refine ⟨_, rfl, .inl ⟨_, .inl hd⟩, δ, w1, S1, env.mono e1, st1, PostG.bind h fun v2 H2 w2 d2 S2 e2 st2 r2 h => ?_⟩
        refine ⟨δ, w2, S2, (env.mono e1).mono e2, st2, PostG.bind h fun v3 H3 w3 d3 S3 e3 st3 r3 h => ?_⟩
        obtain ⟨kp, hk, h⟩ := h.opt
        cases ek : keyP kp with
        | none => rw [ek] at h; exact h.elim
        | some kk =>
          rw [ek] at h
          simp only [] at h
          have now := Now.of st3 (r2.mono e3) hk
          rw [keyP_inv ek] at now
          have hv := now_key now
          have keep := (e2.trans e3).mono.keep _ _ hd ow
          rcases look_of (K := X.K) (H := H3) (w := w3) (k := kk) q with ⟨l1, l2⟩ | ⟨v4, d4, l1, l2, l3⟩
          · rw [l1] at h
            refine ⟨none, by rw [hv]; exact l2 ▸ DGet.k keep.1, h.ok (.refl _ _) st3 r3⟩
          · rw [l1] at h
            refine ⟨some v4, by rw [hv]; exact l2 ▸ DGet.k keep.1, h.ok (.refl _ _) st3 l3⟩
    · exact h.elim⟩⟩
/-- {..} of constants -/
theorem se_cdict {X : Cx} {W : WX} {keys : List (Option Expr)} {values : List Expr} {trs : List (TE × TE)} {pos : Pos} {kvs : List (Key × V)} {ds : List (PD × PD)} (h : PPs X pos keys values trs) (hall : keys.all (·.isSome) = true) (hl : keys.length = values.length) (h0 : keys ≠ []) (h15 : keys.length ≤ 15)
    (ht : trs = kvs.map fun kv => (tC (kV kv.1), tC kv.2)) (hk : kvs.length ≤ 15) (hm : mergeK [] kvs = kvs) (hd : FzD kvs ds) : SE X W (.Dict keys values pos) (conE (.dict ds)) :=
  ⟨PE.imp (pe_disp h hall hl h0 h15) fun σ H Q ⟨δ, w, S, env, st, q⟩ p hp => by
    have go : ∀ (l : List (Key × V)) (Hh : Hp) (R : List (V × V) → Hp → Prop), R (l.map fun kv => (kV kv.1, kv.2)) Hh → tPairs (l.map fun kv => (tC (kV kv.1), tC kv.2)) σ Hh R := by
      intro l
      induction l with
      | nil => intro Hh R r; exact r
      | cons a l ih => intro Hh R r; exact ih Hh _ r
    subst ht
    refine go kvs _ _ ⟨upd_same, kvs, rfl, hk, ?_⟩
    rw [hm]
    have e : upd (upd H p (.dK [])) p (.dK kvs) = upd H p (.dK kvs) := by
      funext b
      by_cases hb : b = p
      · subst hb; rw [upd_same, upd_same]
      · rw [upd_ne hb, upd_ne hb, upd_ne hb]
    rw [e]
    exact q.ok (.same (same_new hp)) (st.same (same_new hp)) (.dic upd_same (st.fresh hp) hd)⟩
end DL

set_option Elab.async false
set_option linter.all false
set_option maxRecDepth 100000
set_option maxHeartbeats 4000000
/-! DLu: plain words that many laws want: data by size, texts written out, drawn lists. -/
namespace DL
open PySem PySem.Spec PyProof.Rows L2

theorem str_lit (a b : String) : (Str.ofString a = Str.ofString b) = (a = b) := by
  apply propext
  constructor
  · intro h
    have e := congrArg Str.cps h
    simp only [Str.ofString_eq_toList] at e
    have e2 : List.map Char.toNat a.toList = List.map Char.toNat b.toList := by simpa using e
    have inj : ∀ x y : Char, x.toNat = y.toNat → x = y := fun x y h => Char.ext (UInt32.toNat_inj.mp h)
    exact String.toList_inj.mp ((List.map_inj_right inj).mp e2)
  · rintro rfl; rfl
theorem beq_lit (a b : String) : (Str.ofString a == Str.ofString b) = decide (a = b) := by
  rw [Bool.eq_iff_iff, beq_iff_eq, str_lit, decide_eq_true_iff]
/-! ### data by depth and size -/
/-- a thing without parts: its ints below N, its texts of plain signs -/
def Fl1 (N : Nat) (v : PD) : Prop := v = .none ∨ (∃ b, v = .bool b) ∨ (∃ i : Int, v = .int i ∧ i.natAbs ≤ N) ∨ ∃ z : Str, v = .str z ∧ ∀ c ∈ z.cps.toList, c < 16 ^ 8
def Gd (N : Nat) : Nat → PD → Prop
  | 0, v => Fl1 N v
  | d + 1, v => Fl1 N v ∨ ∃ ds, (v = .tuple ds ∨ v = .list ds) ∧ ∀ x ∈ ds, Gd N d x
mutual
def sz : PD → Nat
  | .str z => 1 + z.length
  | .tuple ds => 1 + szA ds
  | .list ds => 1 + szA ds
  | _ => 1
def szA : List PD → Nat
  | [] => 0
  | x :: xs => sz x + szA xs
end
theorem sz_pos (v : PD) : 1 ≤ sz v := by cases v <;> simp only [sz] <;> omega
theorem szA_app (a b : List PD) : szA (a ++ b) = szA a + szA b := by
  induction a with
  | nil => simp [szA]
  | cons x xs ih => simp only [List.cons_append, szA, ih]; omega
theorem szA_len (a : List PD) : a.length ≤ szA a := by
  induction a with
  | nil => simp [szA]
  | cons x xs ih => simp only [szA, List.length_cons]; have := sz_pos x; omega
theorem szA_mem {a : List PD} {x : PD} (h : x ∈ a) : sz x ≤ szA a := by
  induction a with
  | nil => simp at h
  | cons y ys ih =>
    simp only [szA]
    rcases List.mem_cons.mp h with z | z
    · rw [z]; omega
    · have := ih z; omega
theorem szA_le {a : List PD} {k : Nat} (h : ∀ x ∈ a, sz x ≤ k) : szA a ≤ a.length * k := by
  induction a with
  | nil => simp [szA]
  | cons y ys ih =>
    simp only [szA, List.length_cons, Nat.succ_mul]
    have := h y List.mem_cons_self
    have := ih fun x hx => h x (List.mem_cons_of_mem _ hx)
    omega
theorem szA_rev (a : List PD) : szA a.reverse = szA a := by
  induction a with
  | nil => rfl
  | cons x xs ih => rw [List.reverse_cons, szA_app, ih]; simp only [szA]; omega
theorem szA_take (n : Nat) (a : List PD) : szA (a.take n) ≤ szA a := by
  have h := szA_app (a.take n) (a.drop n)
  rw [List.take_append_drop] at h; omega
theorem szA_drop (n : Nat) (a : List PD) : szA (a.drop n) ≤ szA a := by
  have h := szA_app (a.take n) (a.drop n)
  rw [List.take_append_drop] at h; omega
theorem szA_at (a : List PD) (i : Nat) (h : i < a.length) : szA (a.take i) + sz a[i] + szA (a.drop (i + 1)) = szA a := by
  have e : a = a.take i ++ a[i] :: a.drop (i + 1) := by rw [← List.drop_eq_getElem_cons h, List.take_append_drop]
  conv => rhs; rw [e]
  rw [szA_app]; simp only [szA]; omega
theorem Fl1.more {N M : Nat} (h : N ≤ M) {v : PD} (q : Fl1 N v) : Fl1 M v := by
  rcases q with q | q | ⟨i, q, z⟩ | q
  · exact .inl q
  · exact .inr (.inl q)
  · exact .inr (.inr (.inl ⟨i, q, by omega⟩))
  · exact .inr (.inr (.inr q))
theorem Gd.fl {N : Nat} {v : PD} (h : Fl1 N v) : ∀ d, Gd N d v
  | 0 => h
  | _ + 1 => .inl h
theorem Gd.more {N M : Nat} (hN : N ≤ M) : ∀ {d e : Nat} {v : PD}, d ≤ e → Gd N d v → Gd M e v
  | 0, e, v, _, h => Gd.fl (Fl1.more hN h) e
  | d + 1, 0, v, le, h => absurd le (by omega)
  | d + 1, e + 1, v, le, h => by
    rcases h with h | ⟨ds, q, z⟩
    · exact .inl (h.more hN)
    · exact .inr ⟨ds, q, fun x hx => Gd.more hN (by omega) (z x hx)⟩
theorem Gd.tup {N d : Nat} {ds : List PD} (h : ∀ x ∈ ds, Gd N d x) : Gd N (d + 1) (.tuple ds) := .inr ⟨ds, .inl rfl, h⟩
theorem Gd.lst {N d : Nat} {ds : List PD} (h : ∀ x ∈ ds, Gd N d x) : Gd N (d + 1) (.list ds) := .inr ⟨ds, .inr rfl, h⟩
theorem Gd.tupOf {N d : Nat} {ds : List PD} (h : Gd N d (.tuple ds)) : ∀ x ∈ ds, Gd N (d - 1) x := by
  cases d with
  | zero => rcases h with h | ⟨_, h⟩ | ⟨_, h, _⟩ | ⟨_, h, _⟩ <;> cases h
  | succ d =>
    rcases h with (h | ⟨_, h⟩ | ⟨_, h, _⟩ | ⟨_, h, _⟩) | ⟨es, h | h, z⟩
    · cases h
    · cases h
    · cases h
    · cases h
    · cases h; exact z
    · cases h
theorem Gd.lstOf {N d : Nat} {ds : List PD} (h : Gd N d (.list ds)) : ∀ x ∈ ds, Gd N (d - 1) x := by
  cases d with
  | zero => rcases h with h | ⟨_, h⟩ | ⟨_, h, _⟩ | ⟨_, h, _⟩ <;> cases h
  | succ d =>
    rcases h with (h | ⟨_, h⟩ | ⟨_, h, _⟩ | ⟨_, h, _⟩) | ⟨es, h | h, z⟩
    · cases h
    · cases h
    · cases h
    · cases h
    · cases h
    · cases h; exact z
theorem Gd.noDict {N d : Nat} {kvs : List (PD × PD)} (h : Gd N d (.dict kvs)) : False := by
  cases d with
  | zero => rcases h with h | ⟨_, h⟩ | ⟨_, h, _⟩ | ⟨_, h, _⟩ <;> cases h
  | succ d => rcases h with (h | ⟨_, h⟩ | ⟨_, h, _⟩ | ⟨_, h, _⟩) | ⟨es, h | h, z⟩ <;> cases h
theorem Gd.intOf {N d : Nat} {i : Int} (h : Gd N d (.int i)) : i.natAbs ≤ N := by
  have : Fl1 N (.int i) := by
    cases d with
    | zero => exact h
    | succ d =>
      rcases h with h | ⟨es, h | h, z⟩
      · exact h
      · cases h
      · cases h
  rcases this with h | ⟨_, h⟩ | ⟨_, h, q⟩ | ⟨_, h, _⟩
  · cases h
  · cases h
  · cases h; exact q
  · cases h
theorem Gd.strOf {N d : Nat} {z : Str} (h : Gd N d (.str z)) : ∀ c ∈ z.cps.toList, c < 16 ^ 8 := by
  have : Fl1 N (.str z) := by
    cases d with
    | zero => exact h
    | succ d =>
      rcases h with h | ⟨es, h | h, z⟩
      · exact h
      · cases h
      · cases h
  rcases this with h | ⟨_, h⟩ | ⟨_, h, q⟩ | ⟨_, h, q⟩
  · cases h
  · cases h
  · cases h
  · cases h; exact q
theorem gd_int {N d : Nat} {i : Int} (h : i.natAbs ≤ N) : Gd N d (.int i) := Gd.fl (.inr (.inr (.inl ⟨i, rfl, h⟩))) d
theorem gd_bool {N d : Nat} {b : Bool} : Gd N d (.bool b) := Gd.fl (.inr (.inl ⟨b, rfl⟩)) d
theorem gd_non {N d : Nat} : Gd N d .none := Gd.fl (.inl rfl) d
theorem gd_str {N d : Nat} {z : Str} (h : ∀ c ∈ z.cps.toList, c < 16 ^ 8) : Gd N d (.str z) := Gd.fl (.inr (.inr (.inr ⟨z, rfl, h⟩))) d
theorem lit_signs (s : String) : ∀ c ∈ (Str.ofString s).cps.toList, c < 16 ^ 8 := by
  intro c hc
  rw [Str.ofString_eq_toList] at hc
  simp only [List.mem_map] at hc
  obtain ⟨ch, _, rfl⟩ := hc
  have := ch.valid
  have h3 : ch.toNat < 1114112 := by
    rcases this with z | ⟨_, z⟩
    · exact Nat.lt_trans z (by decide)
    · exact z
  omega
theorem gd_lit {N d : Nat} {s : String} : Gd N d (.str s) := gd_str (lit_signs s)
/-! .. it can be shown -/
theorem gd_wt {N W : Nat} (h1 : ∀ i : Int, i.natAbs ≤ N → i.natAbs.log2 + 2 ≤ W) (hW0 : 1 ≤ W) : ∀ {d : Nat} {v : PD}, Gd N d v → v.weight + 1 ≤ W * sz v
  | d, .none, _ => by simp only [PyData.weight, sz]; omega
  | d, .bool b, _ => by simp only [PyData.weight, sz]; omega
  | d, .int i, h => by
    have := h1 i h.intOf
    simp only [PyData.weight, sz]
    split <;> omega
  | d, .str z, h => by
    simp only [PyData.weight, sz]
    have e : z.cps.size = z.length := rfl
    have := Nat.mul_le_mul_right (1 + z.length) hW0
    omega
  | 0, .tuple ds, h => by rcases h with h | ⟨_, h⟩ | ⟨_, h, _⟩ | ⟨_, h, _⟩ <;> cases h
  | 0, .list ds, h => by rcases h with h | ⟨_, h⟩ | ⟨_, h, _⟩ | ⟨_, h, _⟩ <;> cases h
  | d, .dict _, h => (Gd.noDict h).elim
  | d + 1, .tuple ds, h => by
    have hx := fun x hx => gd_wt h1 hW0 (h.tupOf x hx)
    have go : ∀ l : List PD, (∀ x ∈ l, x.weight + 1 ≤ W * sz x) → PyData.weightAll l ≤ W * szA l := by
      intro l
      induction l with
      | nil => intro _; simp [PyData.weightAll]
      | cons x xs ih =>
        intro q
        have := ih fun y hy => q y (List.mem_cons_of_mem _ hy)
        have := q x List.mem_cons_self
        simp only [PyData.weightAll, szA, Nat.mul_add]; omega
    have := go ds hx
    simp only [PyData.weight, sz, Nat.mul_add]; omega
  | d + 1, .list ds, h => by
    have hx := fun x hx => gd_wt h1 hW0 (h.lstOf x hx)
    have go : ∀ l : List PD, (∀ x ∈ l, x.weight + 1 ≤ W * sz x) → PyData.weightAll l ≤ W * szA l := by
      intro l
      induction l with
      | nil => intro _; simp [PyData.weightAll]
      | cons x xs ih =>
        intro q
        have := ih fun y hy => q y (List.mem_cons_of_mem _ hy)
        have := q x List.mem_cons_self
        simp only [PyData.weightAll, szA, Nat.mul_add]; omega
    have := go ds hx
    simp only [PyData.weight, sz, Nat.mul_add]; omega
theorem gd_rest {N B : Nat} (h1 : ∀ i : Int, i.natAbs ≤ N → (PyData.shown (.int i)).length ≤ B ∧ i.natAbs.log2 < 1920) : ∀ {d : Nat} {v : PD}, Gd N d v → v.showable = true ∧ v.leavesShort B = true ∧ v.depth ≤ d ∧ v.hasDict = false
  | d, .none, _ => ⟨rfl, rfl, by simp [PyData.depth], rfl⟩
  | d, .bool b, _ => ⟨rfl, rfl, by simp [PyData.depth], rfl⟩
  | d, .int i, h => by
    obtain ⟨q1, q2⟩ := h1 i h.intOf
    exact ⟨by simp [PyData.showable]; omega, by simpa [PyData.leavesShort] using q1, by simp [PyData.depth], rfl⟩
  | d, .str z, h => by
    have q := h.strOf
    exact ⟨rfl, by simp only [PyData.leavesShort, List.all_eq_true, decide_eq_true_eq]; exact q, by simp [PyData.depth], rfl⟩
  | 0, .tuple ds, h => by rcases h with h | ⟨_, h⟩ | ⟨_, h, _⟩ | ⟨_, h, _⟩ <;> cases h
  | 0, .list ds, h => by rcases h with h | ⟨_, h⟩ | ⟨_, h, _⟩ | ⟨_, h, _⟩ <;> cases h
  | d, .dict _, h => (Gd.noDict h).elim
  | d + 1, .tuple ds, h => by
    have hx := fun x hx => gd_rest h1 (h.tupOf x hx)
    have go : ∀ l : List PD, (∀ x ∈ l, x.showable = true ∧ x.leavesShort B = true ∧ x.depth ≤ d ∧ x.hasDict = false) → PyData.showableAll l = true ∧ PyData.leavesShortAll B l = true ∧ PyData.depthAll l ≤ d ∧ PyData.hasDictAll l = false := by
      intro l
      induction l with
      | nil => intro _; exact ⟨rfl, rfl, by simp [PyData.depthAll], rfl⟩
      | cons x xs ih =>
        intro q
        obtain ⟨i1, i2, i3, i4⟩ := ih fun y hy => q y (List.mem_cons_of_mem _ hy)
        obtain ⟨q1, q2, q3, q4⟩ := q x List.mem_cons_self
        exact ⟨by simp [PyData.showableAll, q1, i1], by simp [PyData.leavesShortAll, q2, i2], by simp only [PyData.depthAll]; omega, by simp [PyData.hasDictAll, q4, i4]⟩
    obtain ⟨i1, i2, i3, i4⟩ := go ds hx
    exact ⟨by simpa [PyData.showable] using i1, by simpa [PyData.leavesShort] using i2, by simp only [PyData.depth]; omega, by simpa [PyData.hasDict] using i4⟩
  | d + 1, .list ds, h => by
    have hx := fun x hx => gd_rest h1 (h.lstOf x hx)
    have go : ∀ l : List PD, (∀ x ∈ l, x.showable = true ∧ x.leavesShort B = true ∧ x.depth ≤ d ∧ x.hasDict = false) → PyData.showableAll l = true ∧ PyData.leavesShortAll B l = true ∧ PyData.depthAll l ≤ d ∧ PyData.hasDictAll l = false := by
      intro l
      induction l with
      | nil => intro _; exact ⟨rfl, rfl, by simp [PyData.depthAll], rfl⟩
      | cons x xs ih =>
        intro q
        obtain ⟨i1, i2, i3, i4⟩ := ih fun y hy => q y (List.mem_cons_of_mem _ hy)
        obtain ⟨q1, q2, q3, q4⟩ := q x List.mem_cons_self
        exact ⟨by simp [PyData.showableAll, q1, i1], by simp [PyData.leavesShortAll, q2, i2], by simp only [PyData.depthAll]; omega, by simp [PyData.hasDictAll, q4, i4]⟩
    obtain ⟨i1, i2, i3, i4⟩ := go ds hx
    exact ⟨by simpa [PyData.showable] using i1, by simpa [PyData.leavesShort] using i2, by simp only [PyData.depth]; omega, by simpa [PyData.hasDict] using i4⟩
/-- ints of at most k figures, so heavy: shown -/
theorem gd_show {N k : Nat} (hk : 7 ≤ k) (hk2 : k ≤ 50) (hN : N < 10 ^ k) {d n : Nat} {v : PD} (h : Gd N d v) (hd : d ≤ 60) (hs : sz v ≤ n) (hn : (k + 3) * ((4 * k + 2) * n) + (k + 1) ≤ 16777216) : showOk v = true := by
  have lg : ∀ i : Int, i.natAbs ≤ N → i.natAbs.log2 + 2 ≤ 4 * k + 2 := fun i hi => by
    have p : (10 : Nat) ^ k ≤ 2 ^ (4 * k) := by
      rw [Nat.pow_mul]; exact Nat.pow_le_pow_left (by decide) k
    have := PySem.Flt.log2_lt_of (n := i.natAbs) (k := 4 * k) (by omega) (by omega)
    omega
  obtain ⟨q1, q2, q3, q4⟩ := gd_rest (B := k + 1) (fun i hi => ⟨int_len (by omega) i (by omega), by have := lg i hi; omega⟩) h
  have q5 := gd_wt lg (by omega) h
  have q6 : (4 * k + 2) * sz v ≤ (4 * k + 2) * n := Nat.mul_le_mul_left _ hs
  exact Shw.ok (B := k + 1) (c := false) (d := d) (n := (4 * k + 2) * n) ⟨q1, q2, q3, by omega, by simpa using q4⟩ (by omega) hd (by omega)
/-! ### members -/
theorem eqOk_s (n : Nat) (a b : Str) : eqOk n (.str a) (.str b) = true := by cases n <;> rfl
theorem in_s2 (w a b : Str) : inP false (.str w) (.tuple [.str a, .str b]) = some (.bool (w == a || w == b)) := by
  rw [inP_tup]
  simp [memOk, memB, eqOk_s, PyData.eqv, Bool.beq_comm, BEq.comm (a := a), BEq.comm (a := b)]
theorem in_s3 (w a b c : Str) : inP false (.str w) (.tuple [.str a, .str b, .str c]) = some (.bool (w == a || (w == b || w == c))) := by
  rw [inP_tup]
  simp [memOk, memB, eqOk_s, PyData.eqv, BEq.comm (a := a), BEq.comm (a := b), BEq.comm (a := c)]
theorem in_s5 (w a b c d e : Str) : inP false (.str w) (.tuple [.str a, .str b, .str c, .str d, .str e]) = some (.bool (w == a || (w == b || (w == c || (w == d || w == e))))) := by
  rw [inP_tup]
  simp [memOk, memB, eqOk_s, PyData.eqv, BEq.comm (a := a), BEq.comm (a := b), BEq.comm (a := c), BEq.comm (a := d), BEq.comm (a := e)]
/-! ### lists that are gone through -/
theorem allP_map (k : PD → Bool) (ds : List PD) : allP [.list (ds.map fun p => PyData.bool (k p))] = some (.bool (ds.all k)) := by
  have e : ds.map (fun p => PyData.bool (k p)) = (ds.map k).map PyData.bool := by simp
  rw [e]
  simp only [allP, boolsOf_map, Option.map]
  rw [List.all_map]
  rfl
theorem none_left (k : PD → Bool) (ds : List PD) : (ds.filter fun p => !k p).isEmpty = ds.all k := by
  induction ds with
  | nil => rfl
  | cons a b ih =>
    cases h : k a with
    | true =>
      rw [List.filter_cons_of_neg (by simp [h]), List.all_cons, h, Bool.true_and]
      exact ih
    | false => simp [h]
theorem addP_int (i j : Int) : addP (.int i) (.int j) = some (.int (i + j)) := rfl
theorem cut_lo {α : Type} (xs : List α) {i : Int} (h : 0 ≤ i) : cutD xs none (some i) = xs.take i.toNat := by
  unfold cutD
  obtain ⟨n, rfl⟩ : ∃ n : Nat, i = n := ⟨i.toNat, by omega⟩
  have e : HT.sIx xs.length xs.length (some (n : Int)) = min n xs.length := HT.sIx_nat _ _ n
  rw [e, HT.sIx_none]
  simp only [List.drop_zero, Nat.sub_zero, Int.toNat_natCast]
  by_cases c : n ≤ xs.length
  · rw [Nat.min_eq_left c]
  · rw [Nat.min_eq_right (by omega), List.take_length, List.take_of_length_le (by omega)]
theorem cut_hi {α : Type} (xs : List α) {i : Int} (h : 0 ≤ i) : cutD xs (some i) none = xs.drop i.toNat := by
  unfold cutD
  obtain ⟨n, rfl⟩ : ∃ n : Nat, i = n := ⟨i.toNat, by omega⟩
  have e : HT.sIx xs.length 0 (some (n : Int)) = min n xs.length := HT.sIx_nat _ _ n
  rw [e, HT.sIx_none]
  simp only [Int.toNat_natCast]
  by_cases c : n ≤ xs.length
  · rw [Nat.min_eq_left c, List.take_of_length_le (by rw [List.length_drop]; omega)]
  · rw [Nat.min_eq_right (by omega), List.drop_of_length_le (by omega), List.drop_of_length_le (by omega)]
    simp
theorem get_end {A T : Store} {l ds : List PD} : (A ++ l :: (T ++ [ds]))[A.length + (T.length + 1)]? = some ds := by
  rw [List.getElem?_append_right (by omega)]
  rw [show A.length + (T.length + 1) - A.length = T.length + 1 by omega, List.getElem?_cons_succ, List.getElem?_append_right (by omega)]
  simp
theorem set_end {A T : Store} {l ds es : List PD} : (A ++ l :: (T ++ [ds])).set (A.length + (T.length + 1)) es = A ++ l :: (T ++ [es]) := by
  rw [List.set_append_right _ _ (by omega)]
  rw [show A.length + (T.length + 1) - A.length = T.length + 1 by omega, List.set_cons_succ, List.set_append_right _ _ (by omega)]
  simp
theorem take_end {A T : Store} {l l' ds : List PD} : (A ++ l' :: (T ++ [ds])).take (A ++ l :: T).length = A ++ l' :: T := by
  rw [show A ++ l' :: (T ++ [ds]) = (A ++ l' :: T) ++ [ds] by simp]
  rw [List.take_append_of_le_length (by simp), List.take_of_length_le (by simp)]
theorem fnM_cell {nl : Nat} {b : MS} {ds : List D} {S S' : Store} {n : Nat} {es : List PD} (h : b (ds.map some ++ List.replicate nl none) S = .ok (.ret (.ref n)) S') (hn : S.length ≤ n) (he : S'[n]? = some es) : fnM nl false b ds S = .ok (.dat (.list es)) (S'.take S.length) := by
  unfold fnM
  rw [h]
  simp only [endD]
  rw [if_neg (by omega)]
  simp [he]
theorem lcE_pure {it : DEnv → M Src} {g : D → DEnv → M DEnv} {fx : DEnv → M D} {vs : List Nat} {δ : DEnv} {S : Store} {ds : List PD} (f : PD → PD) (hi : it δ S = .ok ⟨ds, []⟩ S)
    (hx : ∀ p ∈ ds, ∃ δ1, g (.dat p) (wipeD δ vs) S = .ok δ1 S ∧ fx δ1 S = .ok (.dat (f p)) S) (hl : ds.length ≤ sizeLine) : lcE it g yesT fx vs δ S = .ok (.dat (.list (ds.map f))) S := by
  have q := lcLoop_map (src := ⟨ds, []⟩) (g := g) (fe := fx) (δ := wipeD δ vs) (S := S) (f := f) rfl ds [] hx (by simpa using hl)
  simp only [lcE, lcA, hi, R.bind]
  rw [q]
  simp
theorem lcE_filt {it : DEnv → M Src} {g : D → DEnv → M DEnv} {ft : DEnv → M Bool} {fx : DEnv → M D} {vs : List Nat} {δ : DEnv} {S : Store} {ds : List PD} (k : PD → Bool) (hi : it δ S = .ok ⟨ds, []⟩ S)
    (hx : ∀ p ∈ ds, ∃ δ1, g (.dat p) (wipeD δ vs) S = .ok δ1 S ∧ ft δ1 S = .ok (k p) S ∧ fx δ1 S = .ok (.dat p) S) (hl : ds.length ≤ sizeLine) : lcE it g ft fx vs δ S = .ok (.dat (.list (ds.filter k))) S := by
  have q := lcLoop_filter (src := ⟨ds, []⟩) (g := g) (ft := ft) (fe := fx) (δ := wipeD δ vs) (S := S) (k := k) rfl ds [] hx (by simpa using hl)
  simp only [lcE, lcA, hi, R.bind]
  rw [q]
  simp
/-- what is drawn in a comprehension -/
theorem lcE_draw {it : DEnv → M Src} {g : D → DEnv → M DEnv} {fx : DEnv → M D} {vs : List Nat} {δ : DEnv} {S : Store} {S1 : Store} {ds : List PD} (Inv : Store → Prop) (Q : PD → Prop) (hi : it δ S = .ok ⟨ds, []⟩ S1) (h0 : Inv S1)
    (hx : ∀ p ∈ ds, ∀ S, Inv S → ∃ δ1 q S3, g (.dat p) (wipeD δ vs) S = .ok δ1 S ∧ fx δ1 S = .ok (.dat q) S3 ∧ Q q ∧ Inv S3) (hl : ds.length ≤ sizeLine) : ∃ res S', lcE it g yesT fx vs δ S = .ok (.dat (.list res)) S' ∧ res.length = ds.length ∧ (∀ x ∈ res, Q x) ∧ Inv S' := by
  have go : ∀ (ps acc : List PD) (S : Store), (∀ p ∈ ps, ∀ S, Inv S → ∃ δ1 q S3, g (.dat p) (wipeD δ vs) S = .ok δ1 S ∧ fx δ1 S = .ok (.dat q) S3 ∧ Q q ∧ Inv S3) → Inv S → acc.length + ps.length ≤ sizeLine →
      ∃ res S', lcLoop ⟨ds, []⟩ g yesT fx (wipeD δ vs) ps acc S = .ok (acc ++ res) S' ∧ res.length = ps.length ∧ (∀ x ∈ res, Q x) ∧ Inv S' := by
    intro ps
    induction ps with
    | nil =>
      intro acc S _ hS _
      refine ⟨[], S, ?_, rfl, (by simp), hS⟩
      simp only [lcLoop]
      rw [if_pos (by intro q hq; cases hq)]
      simp
    | cons p ps ih =>
      intro acc S h hS hz
      obtain ⟨δ1, q, S3, h1, h2, h3, h4⟩ := h p List.mem_cons_self S hS
      simp only [List.length_cons] at hz
      obtain ⟨res, S', e, hr, hq, hi'⟩ := ih (acc ++ [q]) S3 (fun y hy => h y (List.mem_cons_of_mem _ hy)) h4 (by rw [List.length_append]; simp only [List.length_cons, List.length_nil]; omega)
      refine ⟨q :: res, S', ?_, by simp [hr], fun x hx => ?_, hi'⟩
      · simp only [lcLoop]
        rw [if_pos (by intro q hq; cases hq), h1]
        simp only [okB, yesT, if_true, h2, datD, opt, R.bind]
        rw [if_pos (by omega), e]
        simp
      · rcases List.mem_cons.mp hx with z | z
        · rw [z]; exact h3
        · exact hq x z
  obtain ⟨res, S', e, h1, h2, h3⟩ := go ds [] S1 hx h0 (by simpa using hl)
  refine ⟨res, S', ?_, h1, h2, h3⟩
  simp only [lcE, lcA, hi, R.bind]
  rw [e]
  simp
theorem rangeL_len (lo : Int) (n : Nat) : (rangeL lo n).length = n := by simp [rangeL]
theorem rangeL_mem {lo : Int} {n : Nat} {p : PD} (h : p ∈ rangeL lo n) : ∃ i : Nat, i < n ∧ p = .int (lo + (i : Nat)) := by
  simp only [rangeL, List.mem_map, List.mem_range] at h
  obtain ⟨i, h1, h2⟩ := h
  exact ⟨i, h1, h2.symm⟩
/-! ### places -/
theorem ix0 (a : PD) (r : List PD) : ixP (.tuple (a :: r)) (.int 0) = some a := by
  simp only [ixP, atI, ixN, List.length_cons]
  rw [if_pos (by omega), if_pos (by omega)]; rfl
theorem ix1 (a b : PD) (r : List PD) : ixP (.tuple (a :: b :: r)) (.int 1) = some b := by
  simp only [ixP, atI, ixN, List.length_cons]
  rw [if_pos (by omega), if_pos (by omega)]; rfl
theorem ix2 (a b c : PD) (r : List PD) : ixP (.tuple (a :: b :: c :: r)) (.int 2) = some c := by
  simp only [ixP, atI, ixN, List.length_cons]
  rw [if_pos (by omega), if_pos (by omega)]; rfl
theorem ix3 (a b c d : PD) (r : List PD) : ixP (.tuple (a :: b :: c :: d :: r)) (.int 3) = some d := by
  simp only [ixP, atI, ixN, List.length_cons]
  rw [if_pos (by omega), if_pos (by omega)]; rfl
theorem ix4 (a b c d e : PD) (r : List PD) : ixP (.tuple (a :: b :: c :: d :: e :: r)) (.int 4) = some e := by
  simp only [ixP, atI, ixN, List.length_cons]
  rw [if_pos (by omega), if_pos (by omega)]; rfl
theorem ixl0 (a : PD) (r : List PD) : ixP (.list (a :: r)) (.int 0) = some a := by
  simp only [ixP, atI, ixN, List.length_cons]
  rw [if_pos (by omega), if_pos (by omega)]; rfl
theorem ixl1 (a b : PD) (r : List PD) : ixP (.list (a :: b :: r)) (.int 1) = some b := by
  simp only [ixP, atI, ixN, List.length_cons]
  rw [if_pos (by omega), if_pos (by omega)]; rfl
theorem ixlast (ds : List PD) (h : ds ≠ []) : ixP (.tuple ds) (.int (-1)) = some (ds.getLast h) := by
  have hl : 0 < ds.length := List.length_pos_iff.mpr h
  simp only [ixP, atI, ixN]
  rw [if_neg (by omega), if_pos (by omega)]
  have e : (-1 + (ds.length : Int)).toNat = ds.length - 1 := by omega
  simp only [Option.bind, e]
  rw [List.getElem?_eq_getElem (by omega), List.getLast_eq_getElem]
theorem ixat {ds : List PD} {i : Int} (h0 : 0 ≤ i) (h : i < ds.length) : ixP (.tuple ds) (.int i) = some (ds[i.toNat]'(by omega)) := by
  simp only [ixP, atI, ixN]
  rw [if_pos h0, if_pos h]
  simp [show i.toNat < ds.length by omega]
theorem ixatl {ds : List PD} {i : Int} (h0 : 0 ≤ i) (h : i < ds.length) : ixP (.list ds) (.int i) = some (ds[i.toNat]'(by omega)) := by
  simp only [ixP, atI, ixN]
  rw [if_pos h0, if_pos h]
  simp [show i.toNat < ds.length by omega]
theorem allP0 : allP [.list []] = some (.bool true) := by simpa using allP_map (fun _ => true) []
theorem allP1 (a : Bool) : allP [.list [.bool a]] = some (.bool a) := by
  have := allP_map (fun p => match p with | .bool b => b | _ => false) [.bool a]
  simpa using this
theorem allP2 (a b : Bool) : allP [.list [.bool a, .bool b]] = some (.bool (a && b)) := by
  have := allP_map (fun p => match p with | .bool b => b | _ => false) [.bool a, .bool b]
  simpa using this
/-- what is drawn in a comprehension, place by place -/
theorem lcE_drawAt {it : DEnv → M Src} {g : D → DEnv → M DEnv} {fx : DEnv → M D} {vs : List Nat} {δ : DEnv} {S : Store} {S1 : Store} {ds : List PD} (Inv : Store → Prop) (Q : PD → PD → Prop) (hi : it δ S = .ok ⟨ds, []⟩ S1) (h0 : Inv S1)
    (hx : ∀ p ∈ ds, ∀ S, Inv S → ∃ δ1 q S3, g (.dat p) (wipeD δ vs) S = .ok δ1 S ∧ fx δ1 S = .ok (.dat q) S3 ∧ Q p q ∧ Inv S3) (hl : ds.length ≤ sizeLine) : ∃ res S', lcE it g yesT fx vs δ S = .ok (.dat (.list res)) S' ∧ res.length = ds.length ∧ (∀ (i : Nat) (p x : PD), ds[i]? = some p → res[i]? = some x → Q p x) ∧ Inv S' := by
  have go : ∀ (ps acc : List PD) (S : Store), (∀ p ∈ ps, ∀ S, Inv S → ∃ δ1 q S3, g (.dat p) (wipeD δ vs) S = .ok δ1 S ∧ fx δ1 S = .ok (.dat q) S3 ∧ Q p q ∧ Inv S3) → Inv S → acc.length + ps.length ≤ sizeLine →
      ∃ res S', lcLoop ⟨ds, []⟩ g yesT fx (wipeD δ vs) ps acc S = .ok (acc ++ res) S' ∧ res.length = ps.length ∧ (∀ (i : Nat) (p x : PD), ps[i]? = some p → res[i]? = some x → Q p x) ∧ Inv S' := by
    intro ps
    induction ps with
    | nil =>
      intro acc S _ hS _
      refine ⟨[], S, ?_, rfl, (by simp), hS⟩
      simp only [lcLoop]
      rw [if_pos (by intro q hq; cases hq)]
      simp
    | cons p ps ih =>
      intro acc S h hS hz
      obtain ⟨δ1, q, S3, h1, h2, h3, h4⟩ := h p List.mem_cons_self S hS
      simp only [List.length_cons] at hz
      obtain ⟨res, S', e, hr, hq, hi'⟩ := ih (acc ++ [q]) S3 (fun y hy => h y (List.mem_cons_of_mem _ hy)) h4 (by rw [List.length_append]; simp only [List.length_cons, List.length_nil]; omega)
      refine ⟨q :: res, S', ?_, by simp [hr], fun i y x hy hx => ?_, hi'⟩
      · simp only [lcLoop]
        rw [if_pos (by intro q hq; cases hq), h1]
        simp only [okB, yesT, if_true, h2, datD, opt, R.bind]
        rw [if_pos (by omega), e]
        simp
      · cases i with
        | zero => simp at hy hx; subst hy; subst hx; exact h3
        | succ i => exact hq i y x (by simpa using hy) (by simpa using hx)
  obtain ⟨res, S', e, h1, h2, h3⟩ := go ds [] S1 hx h0 (by simpa using hl)
  refine ⟨res, S', ?_, h1, h2, h3⟩
  simp only [lcE, lcA, hi, R.bind]
  rw [e]
  simp
theorem mem_two {A T : Store} {l x : List PD} : (A ++ l :: (T ++ [x])) = (A ++ l :: T) ++ [x] := by simp
theorem addP_list {a b : List PD} (h : a.length + b.length ≤ 16777216) : addP (.list a) (.list b) = some (.list (a ++ b)) := by
  simp only [addP]; rw [if_pos (by rw [sizeLine_eq]; exact h)]
theorem addP_tup {a b : List PD} (h : a.length + b.length ≤ 16777216) : addP (.tuple a) (.tuple b) = some (.tuple (a ++ b)) := by
  simp only [addP]; rw [if_pos (by rw [sizeLine_eq]; exact h)]
theorem rg_small (m : Int) (h0 : 0 ≤ m) (h1 : m ≤ 16777216) : -(2 ^ 62 : Int) ≤ m ∧ m < 2 ^ 62 := by omega
theorem rng_nat {fe : DEnv → M D} {δ : DEnv} {S S1 : Store} {m : Int} (h : fe δ S = .ok (.dat (.int m)) S1) (h0 : 0 ≤ m) (h1 : m ≤ 16777216) : rngI1 fe δ S = .ok ⟨rangeL 0 m.toNat, []⟩ S1 := by
  have hb := rg_small m h0 h1
  simp only [rngI1, h, R.bind]
  rw [if_pos hb]
end DL

set_option Elab.async false
set_option linter.all false
set_option maxRecDepth 100000
set_option maxHeartbeats 4000000
/-! DLv: lists made of two that will be changed, extend, index. -/
namespace DL
open PySem PySem.Spec PyProof.Rows L2
section
variable {X : Cx} {W : WX} {a b : Expr} {fa fb : DEnv → M D} {pos : Pos}
/-- a + b, two lists: a new cell -/
def catC (fa fb : DEnv → M D) : DEnv → M D := fun δ S => (fa δ S).bind fun x S1 => (fb δ S1).bind fun y S2 => (opt (derefD S2 x) S2).bind fun p S2 => (opt (derefD S2 y) S2).bind fun q S2 => match p, q with
  | .list i, .list j => if i.length + j.length ≤ sizeLine then .ok (.ref S2.length) (S2 ++ [i ++ j]) else .bad
  | _, _ => .bad
theorem se_catC (ha : SE X W a fa) (hb : SE X W b fb) : SE X W (.BinOp a .Add b pos) (catC fa fb) :=
  ⟨PE.imp (pe_op op_catL ha.pe hb.pe) fun σ H Q ⟨δ, w, S, env, st, h⟩ => ⟨δ, w, S, env, st, PostG.bind h fun x H1 w1 c S1 e1 st1 rx h => by
    refine ⟨δ, w1, S1, env.mono e1, st1, PostG.bind h fun y H2 w2 d S2 e2 st2 ry h => ?_⟩
    obtain ⟨p, hp, h⟩ := h.opt
    obtain ⟨q, hq, h⟩ := h.opt
    split at h
    · split at h
      · rename_i hz
        obtain ⟨l, xs, rfl, l1, f1⟩ := (Now.of st2 (rx.mono e2) hp).list
        obtain ⟨m, ys, rfl, l2, f2⟩ := (Now.of st2 ry hq).list
        refine ⟨l, m, xs, ys, rfl, rfl, l1, l2, by rw [f1.length, f2.length]; exact hz, fun T hT => ?_⟩
        obtain ⟨ex, st3⟩ := st2.alloc hT (f1.append f2)
        exact h.ok ex st3 (rep_new st2 T)
      · exact h.elim
    · exact h.elim⟩⟩
def extP : List PD → List PD → Option (PD × List PD)
  | ds, [.list es] => if ds.length + es.length ≤ sizeLine then some (.none, ds ++ es) else none
  | _, _ => none
theorem m_ext : MtR X "list.extend" (rM X.K extP) := by
  intro pins s σ H x vs v us Q I rx rs ⟨l, w, xs, ds, ps, r, ds', e1, hx, fx, fp, hg, k⟩
  unfold extP at hg
  split at hg
  · split at hg <;> cases hg
    rename_i es hz
    cases fp with
    | cons c d =>
      cases d
      cases c with
      | lst hl fl =>
        rename_i m zs
        subst e1
        cases rx
        cases rs with
        | cons ru rr =>
          cases rr
          cases ru
          obtain ⟨z, its, n, rv, hl1, e⟩ := I.lstM hx
          obtain ⟨z2, its2, n2, rv2, e2⟩ := hl.rd.ok I
          have s1 := rv.length
          have s2 := rv2.length
          have s3 := fx.length
          have s4 := fl.length
          have hsz : its.toArray.size + its2.toArray.size ≤ sizeLine := by rw [List.size_toArray, List.size_toArray]; omega
          have notlong : ¬ (!its.toArray.isEmpty && Builtin.List.listTooLong (its.toArray.size + its2.toArray.size)) = true := by
            rw [notLongL hsz, Bool.and_false]
            decide
          refine call_meets F.slot_list_extend ⟨_, e, rfl⟩ F.entry_list_extend (F.args_list_extend_2 _ _) (AutoSeq1.list_extend_list_list_0 l its.toArray n m its2.toArray n2 notlong (by rw [List.size_toArray]; omega) (by omega)) ⟨e, e2, ?_⟩
          refine ⟨.non, _, I.lset (its' := its ++ its2) hx e (by simp) (rv.append rv2) ?_, rfl, k _ _ (fx.append fl) .non⟩
          rw [List.length_append]; omega
  · cases hg
/-- a place in a row of texts -/
def placeS (z : Str) : List Str → Option Nat
  | [] => none
  | y :: ys => if y = z then some 0 else (placeS z ys).map (· + 1)
theorem placeS_at {z : Str} : ∀ {ys : List Str} {j : Nat}, placeS z ys = some j → ys[j]? = some z ∧ ∀ m, m < j → ys[m]? ≠ some z
  | [], _, h => by cases h
  | y :: ys, j, h => by
    unfold placeS at h
    split at h
    · rename_i e
      cases h
      exact ⟨by rw [e]; rfl, fun m hm => by omega⟩
    · rename_i e
      simp only [Option.map_eq_some_iff] at h
      obtain ⟨i, hi, rfl⟩ := h
      obtain ⟨q1, q2⟩ := placeS_at hi
      refine ⟨by simpa using q1, fun m hm => ?_⟩
      cases m with
      | zero => intro q; exact e (by simpa using q)
      | succ m => simpa using q2 m (by omega)
/-- K's tuple of texts .index(text) -/
def kixE (ds : List PD) (fe : DEnv → M D) : DEnv → M D := fun δ S => (fe δ S).bind fun d S1 => match d, strsOf ds with
  | .dat (.str z), some ys => match placeS z ys with
    | some j => .ok (.dat (.int (j : Nat))) S1
    | none => .bad
  | _, _ => .bad
theorem se_kix {x : Str} {u : Value} {v : V} {ds : List PD} {e : Expr} {fe : DEnv → M D} {p0 apos cpos : Pos} (hg : Gl X x) (hm : X.mg x = some u) (r : RelV v u) (hd : (x == ("__debug__" : Str)) = false) (hf : KDat X.K v (.tuple ds)) (he : SE X W e fe)
    (hbase : attributeBase (.Name x p0) "index" X.env (eval (.Name x p0) X.env) = eval (.Name x p0) X.env)
    (hfew : ((backTo cpos (starEach [e] X.env)).all (fun x => !x.1) && (backToKw cpos (keywordEach [] X.env)).all (fun x => x.1.isSome)
      && decide (([e] : List Expr).length + ([] : List Keyword).length + (if ([] : List Keyword).isEmpty then 0 else 1) < 30)) = true)
    (hline : (apos.endLine == cpos.line) = true) (hs : starEach [e] X.env = (false, eval e X.env) :: starEach [] X.env) (hplain : (backTo cpos (starEach [] X.env)).any (·.1) = false) :
    SE X W (.Call (.Attribute (.Name x p0) "index" apos) [e] [] cpos) (kixE ds fe) :=
  ⟨PE.imp (pe_bm F.plainAttrs_tuple F.slot_tuple_index F.type_tuple_index mt_tup_index (pe_glob hg hm r hd) (sa_cons he sa_nil hs).pa hbase hfew hline hs hplain) fun σ H Q ⟨δ, w, S, env, st, h⟩ => by
    obtain ⟨hfz, htu⟩ := hf
    have f0 := hfz H w
    cases f0 with
    | tup ht fa =>
      rename_i al xs
      obtain ⟨o, k1, k2, k3⟩ := htu al ds rfl rfl
      refine ⟨.inr (.inl ⟨rfl, o, k1, k2, k3⟩), δ, w, S, env, st, ?_⟩
      unfold kixE at h
      cases ef : fe δ S with
      | bad => rw [ef] at h; exact h.elim
      | exc xn S1 =>
        rw [ef] at h
        simp only [consA, ef, R.bind]
        exact h
      | ok d S1 =>
        rw [ef] at h
        simp only [consA, nilA, ef, R.bind] at h ⊢
        intro vs H1 w1 e1 st1 rv
        split at h
        · rename_i z ys hys
          split at h
          · rename_i j hj
            cases rv with
            | cons r1 r2 =>
              cases r2; cases r1
              have f1 := hfz H1 w1
              cases f1 with
              | tup ht1 fa1 =>
                rename_i xs1
                rw [strsOf_eq hys] at fa1
                have ex := fzA_str fa1
                subst ex
                obtain ⟨q1, q2⟩ := placeS_at hj
                exact ⟨al, ys, z, j, rfl, rfl, ht1.seq, q1, q2, h (.int (j : Nat)) H1 w1 e1 st1 (.int _)⟩
          · exact h.elim
        · exact h.elim⟩
/-- a list of texts .index(text) -/
def lixE (fo fe : DEnv → M D) : DEnv → M D := fun δ S => (fo δ S).bind fun c S1 => match c with
  | .dat (.list ds) => (fe δ S1).bind fun d S2 => match d, strsOf ds with
    | .dat (.str z), some ys => match placeS z ys with
      | some j => .ok (.dat (.int (j : Nat))) S2
      | none => .bad
    | _, _ => .bad
  | _ => .bad
theorem se_lix {o e : Expr} {fo fe : DEnv → M D} {apos cpos : Pos} (ho : SE X W o fo) (he : SE X W e fe)
    (hbase : attributeBase o "index" X.env (eval o X.env) = eval o X.env)
    (hfew : ((backTo cpos (starEach [e] X.env)).all (fun x => !x.1) && (backToKw cpos (keywordEach [] X.env)).all (fun x => x.1.isSome)
      && decide (([e] : List Expr).length + ([] : List Keyword).length + (if ([] : List Keyword).isEmpty then 0 else 1) < 30)) = true)
    (hline : (apos.endLine == cpos.line) = true) (hs : starEach [e] X.env = (false, eval e X.env) :: starEach [] X.env) (hplain : (backTo cpos (starEach [] X.env)).any (·.1) = false) :
    SE X W (.Call (.Attribute o "index" apos) [e] [] cpos) (lixE fo fe) :=
  ⟨PE.imp (pe_bm F.plainAttrs_list F.slot_list_index F.type_list_index mt_index ho.pe (sa_cons he sa_nil hs).pa hbase hfew hline hs hplain) fun σ H Q ⟨δ, w, S, env, st, h⟩ => by
    refine ⟨δ, w, S, env, st, PostG.bind h fun x H1 w1 c S1 e1 st1 rx h => ?_⟩
    split at h
    · rename_i ds
      cases rx with
      | lst hl fl =>
        rename_i al xs
        refine ⟨.inl ⟨rfl, xs, hl.seq⟩, δ, w1, S1, env.mono e1, st1, ?_⟩
        cases ef : fe δ S1 with
        | bad => rw [ef] at h; exact h.elim
        | exc xn S2 =>
          rw [ef] at h
          simp only [consA, ef, R.bind]
          exact h
        | ok d S2 =>
          rw [ef] at h
          simp only [consA, nilA, ef, R.bind] at h ⊢
          intro vs H2 w2 e2 st2 rv
          split at h
          · rename_i z ys hys
            split at h
            · rename_i j hj
              cases rv with
              | cons r1 r2 =>
                cases r2; cases r1
                have fl2 := fl.mono e2.mono
                rw [strsOf_eq hys] at fl2
                have ex := fzA_str fl2
                subst ex
                obtain ⟨q1, q2⟩ := placeS_at hj
                refine ⟨al, ys.map V.str, .str z, j, .str z, rfl, rfl, (hl.mono e2.mono).seq, rfl, ?_, by rw [List.getElem?_map, q1]; rfl, by simp [eqV], fun m z' hm hz' => ?_, h (.int (j : Nat)) H2 w2 e2 st2 (.int _)⟩
                · simp [List.all_map, flatV]
                · rw [List.getElem?_map] at hz'
                  cases hy : ys[m]? with
                  | none => rw [hy] at hz'; cases hz'
                  | some y =>
                    rw [hy] at hz'; cases hz'
                    have : y ≠ z := fun e => q2 m hm (by rw [hy, e])
                    simpa [eqV] using this
            · exact h.elim
          · exact h.elim
    · exact h.elim⟩
end
end DL

set_option Elab.async false
set_option linter.all false
set_option maxRecDepth 100000
set_option maxHeartbeats 4000000
namespace DL.k63
open PySem PySem.Spec PyProof.Rows L2 DL
/-! ### the text: the defs and where they stand -/
noncomputable section
def top (i : Nat) : Stmt := PySem.Challenge.pw_knownstops_k63_codes_of_lines.main.body.getD i (.Pass ⟨0, 0, 0, 0⟩)
def dls : List (Str × Nat) := ([("is_integer", 7), ("is_count", 8), ("is_amount", 9), ("is_rising", 10), ("is_tuple_of", 11), ("is_sum_of", 12), ("is_below", 21), ("are_sums", 22), ("is_instruction", 23), ("is_line", 24), ("want_line", 25), ("count_bytes", 33), ("integer_bytes", 34), ("sum_bytes", 35), ("sums_bytes", 36), ("plain_bytes", 37), ("tail_bytes", 38), ("sizes_of", 39), ("places_by", 40), ("too_far", 41)] : List (Str × Nat)) ++ ([("longs_by", 42), ("made_by", 43), ("want_size", 44), ("code_of_line", 45), ("positions", 46), ("longs", 47), ("_law_pot", 49), ("_law_draw", 50), ("_law_pick", 51), ("_law_number", 52), ("_law_sum", 53), ("_law_instruction", 54), ("_law_line", 55), ("_law_count", 56), ("_law_integer", 57), ("_law_sum_bytes", 58), ("_law_parts", 59), ("_law_packed", 60), ("_law_grown", 61), ("_law_least", 62)] : List (Str × Nat)) ++ ([("_law_same", 63), ("_law_right", 64), ("law", 65)] : List (Str × Nat))
def frs : List Str := ["len", "abs", "max", "int", "enumerate", "range", "sorted", "divmod", "tuple", "min", "isinstance", "bool", "str", "zip", "all", "list", "repr"]
def cns : List (Str × PD) := [("MOST_AMOUNT", (.int 1000000000)), ("MOST_INSTRUCTIONS", (.int 1000)), ("MOST_MARK", (.int 999)), ("MOST_SLOTS", (.int 8)), ("MOST_SUMS", (.int 4)), ("ENDS", (.tuple [(.str "leave"), (.str "back"), (.str "stop"), (.str "go"), (.str "jump")])), ("TO_ALONE", (.tuple [(.str "test"), (.str "go"), (.str "share")])), ("WITH_SUMS", (.tuple [(.str "call"), (.str "jump")])), ("HEAD", (.tuple [(.int 75), (.int 83), (.int 1)])), ("FIRST", (.int 4)), ("MOST_BYTES", (.int 65536)), ("NOTHING", (.int 255)), ("PLAIN_WORDS", (.tuple [(.str "leave"), (.str "back"), (.str "stop"), (.str "read"), (.str "set"), (.str "tell")])), ("TO_WORDS", (.tuple [(.str "test"), (.str "go"), (.str "share"), (.str "call"), (.str "jump")]))]
abbrev s_law_pot : Stmt := top 49
abbrev s_law_count : Stmt := top 56
abbrev s_law_integer : Stmt := top 57
abbrev s_law_sum_bytes : Stmt := top 58
abbrev s_law_parts : Stmt := top 59
abbrev s_law_packed : Stmt := top 60
abbrev s_law_grown : Stmt := top 61
abbrev s_law_least : Stmt := top 62
abbrev s_law_draw : Stmt := top 50
abbrev s_law_pick : Stmt := top 51
abbrev s_law_number : Stmt := top 52
abbrev s_law_sum : Stmt := top 53
abbrev s_law_instruction : Stmt := top 54
abbrev s_law_line : Stmt := top 55
abbrev s_law_same : Stmt := top 63
abbrev s_places_by : Stmt := top 40
abbrev s_count_bytes : Stmt := top 33
abbrev s_integer_bytes : Stmt := top 34
abbrev s_sum_bytes : Stmt := top 35
abbrev s_plain_bytes : Stmt := top 37
abbrev s_sums_bytes : Stmt := top 36
abbrev s_tail_bytes : Stmt := top 38
abbrev s_sizes_of : Stmt := top 39
abbrev s_too_far : Stmt := top 41
abbrev s_longs_by : Stmt := top 42
abbrev s_made_by : Stmt := top 43
abbrev s_is_integer : Stmt := top 7
abbrev s_is_count : Stmt := top 8
abbrev s_is_below : Stmt := top 21
abbrev s_is_amount : Stmt := top 9
abbrev s_is_rising : Stmt := top 10
abbrev s_is_tuple_of : Stmt := top 11
abbrev s_is_sum_of : Stmt := top 12
abbrev s_are_sums : Stmt := top 22
abbrev s_is_instruction : Stmt := top 23
abbrev s_is_line : Stmt := top 24
abbrev s_want_line : Stmt := top 25
abbrev s_want_size : Stmt := top 44
abbrev s_code_of_line : Stmt := top 45
abbrev s_longs : Stmt := top 47
abbrev s_positions : Stmt := top 46
abbrev s_law_right : Stmt := top 64
abbrev s_law : Stmt := top 65
/-! ### what they do -/
def b_law_pot : MS := (seqS (asgS (iteE (boolT (op2 ltP (varE 1) (blt lenP (consA (varE 0) nilA)))) (blt absP (consA (op2 ixP (varE 0) (varE 1)) nilA)) (op2 addP (op2 mulP (conE (.int 2593)) (varE 1)) (conE (.int 4133)))) (nmT 2)) (seqS (retS (celE (consA (blt maxP (consA (conE (.int 0)) (consA (op2 subP (varE 2) (op2 powP (conE (.int 10)) (conE (.int 18)))) nilA))) (consA (op2 addP (op2 modP (blt intP (consA (op2 addP (op2 addP (op2 mulP (op2 modP (blt intP (consA (varE 2) nilA)) (conE (.int 2147483549))) (conE (.int 40014))) (op2 mulP (conE (.int 40853)) (varE 1))) (conE (.int 7001))) nilA)) (conE (.int 2147483563))) (conE (.int 1))) nilA)))) nxS))
def F_law_pot : List D → M D := fnM 1 true b_law_pot
def b_law_count (F_rec : List D → M D) : MS := (seqS (retS (iteE (boolT (op2 ltP (varE 0) (conE (.int 128)))) (lstE (consA (varE 0) nilA)) (op2 addP (lstE (consA (op2 addP (conE (.int 128)) (op2 modP (blt intP (consA (varE 0) nilA)) (conE (.int 128)))) nilA)) (callE 1 F_rec (consA (op2 fdivP (blt intP (consA (varE 0) nilA)) (conE (.int 128))) nilA))))) nxS)
def F_law_count : Nat → List D → M D
  | 0 => fun _ _ => .bad
  | n + 1 => fnM 0 false (b_law_count (F_law_count n))
def b_law_integer : MS := (seqS (retS (callE 1 (F_law_count 8) (consA (iteE (boolT (op2 geP (varE 0) (conE (.int 0)))) (op2 mulP (conE (.int 2)) (varE 0)) (op2 subP (op2 mulP (negE (conE (.int 2))) (varE 0)) (conE (.int 1)))) nilA))) nxS)
def F_law_integer : List D → M D := fnM 0 false b_law_integer
def lb_law_sum_bytes_0 : MS := (seqS (asgS (op2 addP (op2 addP (varE 1) (lstE (consA (varE 2) nilA))) (callE 1 F_law_integer (consA (varE 3) nilA))) (nmT 1)) nxS)
def l_law_sum_bytes_1 : MS := (forS (seqI (op2 ixP (varE 0) (conE (.int 1)))) (tupT [(nmT 2), (nmT 3)]) lb_law_sum_bytes_0)
def b_law_sum_bytes : MS := (seqS (asgS (op2 addP (callE 1 F_law_integer (consA (op2 ixP (varE 0) (conE (.int 0))) nilA)) (callE 1 (F_law_count 8) (consA (blt lenP (consA (op2 ixP (varE 0) (conE (.int 1))) nilA)) nilA))) (nmT 1)) (seqS l_law_sum_bytes_1 (seqS (retS (varE 1)) nxS)))
def F_law_sum_bytes : List D → M D := fnM 3 false b_law_sum_bytes
def lb_law_parts_0 : MS := (seqS (asgS (op2 addP (varE 2) (callE 1 F_law_sum_bytes (consA (varE 3) nilA))) (nmT 2)) nxS)
def l_law_parts_1 : MS := (forS (seqI (op2 ixP (varE 0) (conE (.int 2)))) (nmT 3) lb_law_parts_0)
def b_law_parts : MS := (seqS (asgS (lixE (lstE (consA (conE (.str "leave")) (consA (conE (.str "back")) (consA (conE (.str "stop")) (consA (conE (.str "read")) (consA (conE (.str "set")) (consA (conE (.str "tell")) (consA (conE (.str "test")) (consA (conE (.str "")) (consA (conE (.str "go")) (consA (conE (.str "")) (consA (conE (.str "share")) (consA (conE (.str "")) (consA (conE (.str "call")) (consA (conE (.str "")) (consA (conE (.str "jump")) nilA)))))))))))))))) (op2 ixP (varE 0) (conE (.int 0)))) (nmT 1)) (seqS (ifS (boolT (op2 ltP (varE 1) (conE (.int 2)))) (seqS (retS (tupE (consA (varE 1) (consA (lstE nilA) nilA)))) nxS) nxS) (seqS (ifS (boolT (op2 eqP (varE 1) (conE (.int 2)))) (seqS (retS (tupE (consA (varE 1) (consA (callE 1 (F_law_count 8) (consA (op2 ixP (varE 0) (conE (.int 1))) nilA)) nilA)))) nxS) nxS) (seqS (ifS (boolT (op2 eqP (varE 1) (conE (.int 3)))) (seqS (retS (tupE (consA (varE 1) (consA (lstE (consA (iteE (boolT (op2 (isP false) (op2 ixP (varE 0) (conE (.int 1))) (conE .none))) (conE (.int 255)) (op2 ixP (varE 0) (conE (.int 1)))) nilA)) nilA)))) nxS) nxS) (seqS (ifS (boolT (op2 eqP (varE 1) (conE (.int 4)))) (seqS (retS (tupE (consA (varE 1) (consA (op2 addP (lstE (consA (op2 ixP (varE 0) (conE (.int 1))) nilA)) (callE 1 F_law_sum_bytes (consA (op2 ixP (varE 0) (conE (.int 2))) nilA))) nilA)))) nxS) nxS) (seqS (ifS (boolT (op2 eqP (varE 1) (conE (.int 5)))) (seqS (retS (tupE (consA (varE 1) (consA (callE 1 F_law_sum_bytes (consA (op2 ixP (varE 0) (conE (.int 1))) nilA)) nilA)))) nxS) nxS) (seqS (ifS (boolT (op2 ltP (varE 1) (conE (.int 12)))) (seqS (retS (tupE (consA (varE 1) (consA (lstE nilA) nilA)))) nxS) nxS) (seqS (asgS (callE 1 (F_law_count 8) (consA (blt lenP (consA (op2 ixP (varE 0) (conE (.int 2))) nilA)) nilA)) (nmT 2)) (seqS l_law_parts_1 (seqS (retS (tupE (consA (varE 1) (consA (varE 2) nilA)))) nxS))))))))))
def F_law_parts : List D → M D := fnM 3 false b_law_parts
def c_law_packed_0 : DEnv → M D := (lcE (seqI (op2 ixP (varE 0) (conE (.int 2)))) (nmT 8) yesT (callE 1 F_law_parts (consA (varE 8) nilA)) [8])
def lb_law_packed_1 : MS := (seqS (dropS (mtE (varE 3) (consA (op2 addP (op2 addP (op2 addP (op2 ixP (varE 3) (negE (conE (.int 1)))) (conE (.int 1))) (blt lenP (consA (varE 10) nilA))) (iteE (boolT (op2 ltP (varE 9) (conE (.int 6)))) (conE (.int 0)) (iteE (boolT (op2 (inP false) (varE 4) (varE 1))) (conE (.int 2)) (conE (.int 1))))) nilA) appP)) nxS)
def l_law_packed_2 : MS := (forS (enumI (consA (varE 2) nilA)) (tupT [(nmT 4), (tupT [(nmT 9), (nmT 10)])]) lb_law_packed_1)
def lb_law_packed_3 : MS := (seqS (asgS (iteE (boolT (op2 gtP (varE 9) (conE (.int 5)))) (op2 ixP (varE 3) (op2 ixP (op2 ixP (op2 ixP (varE 0) (conE (.int 2))) (varE 4)) (conE (.int 1)))) (conE (.int 0))) (nmT 7)) (seqS (ifS (boolT (op2 ltP (varE 9) (conE (.int 6)))) (seqS (asgS (op2 addP (op2 addP (varE 5) (lstE (consA (varE 9) nilA))) (varE 10)) (nmT 5)) nxS) (seqS (ifS (boolT (op2 (inP false) (varE 4) (varE 1))) (seqS (asgS (op2 addP (op2 addP (varE 5) (lstE (consA (op2 addP (varE 9) (conE (.int 1))) (consA (op2 modP (blt intP (consA (varE 7) nilA)) (conE (.int 256))) (consA (op2 fdivP (blt intP (consA (varE 7) nilA)) (conE (.int 256))) nilA))))) (varE 10)) (nmT 5)) nxS) (seqS (asgS (op2 subP (op2 addP (conE (.int 128)) (varE 7)) (op2 ixP (varE 3) (op2 addP (varE 4) (conE (.int 1))))) (nmT 11)) (seqS (asgS (op2 addP (varE 6) (iteE (orT (boolT (op2 ltP (varE 11) (conE (.int 0)))) (boolT (op2 gtP (varE 11) (conE (.int 255))))) (lstE (consA (varE 4) nilA)) (lstE nilA))) (nmT 6)) (seqS (asgS (op2 addP (op2 addP (varE 5) (lstE (consA (varE 9) (consA (varE 11) nilA)))) (varE 10)) (nmT 5)) nxS)))) nxS)) nxS))
def l_law_packed_4 : MS := (forS (enumI (consA (varE 2) nilA)) (tupT [(nmT 4), (tupT [(nmT 9), (nmT 10)])]) lb_law_packed_3)
def b_law_packed : MS := (seqS (asgS c_law_packed_0 (nmT 2)) (seqS (asgS (celE (consA (conE (.int 4)) nilA)) (nmT 3)) (seqS l_law_packed_2 (seqS (parS 5 6 (consA (lstE (consA (conE (.int 75)) (consA (conE (.int 83)) (consA (conE (.int 1)) (consA (op2 ixP (varE 0) (conE (.int 1))) nilA))))) (consA (lstE nilA) nilA))) (seqS l_law_packed_4 (seqS (retT (consA (varE 5) (consA (varE 3) (consA (varE 6) nilA)))) nxS))))))
def F_law_packed : List D → M D := fnM 10 false b_law_packed
def lb_law_grown_0 : MS := (seqS (asgS (op2 ixP (callE 2 F_law_packed (consA (varE 0) (consA (varE 1) nilA))) (conE (.int 2))) (nmT 3)) (seqS (ifS (boolT (op2 eqP (varE 3) (lstE nilA))) (seqS (retS (varE 1)) nxS) nxS) (seqS (asgS (blt sortedP (consA (op2 addP (varE 1) (varE 3)) nilA)) (nmT 1)) nxS)))
def l_law_grown_1 : MS := (forS (rngI1 (op2 addP (blt lenP (consA (op2 ixP (varE 0) (conE (.int 2))) nilA)) (conE (.int 1)))) (nmT 2) lb_law_grown_0)
def b_law_grown : MS := (seqS l_law_grown_1 (seqS (retS (varE 1)) nxS))
def F_law_grown : List D → M D := fnM 2 false b_law_grown
def b_law_least : MS := (seqS (retS (callE 2 F_law_grown (consA (varE 0) (consA (lstE nilA) nilA)))) nxS)
def F_law_least : List D → M D := fnM 0 false b_law_least
def b_law_draw : MS := (seqS (ifS (boolT (op2 gtP (op2 ixP (varE 0) (conE (.int 0))) (conE (.int 0)))) (seqS (asgS (blt divmodP (consA (op2 ixP (varE 0) (conE (.int 0))) (consA (varE 1) nilA))) (tupT [(subT (varE 0) (conE (.int 0))), (nmT 2)])) (seqS (retS (varE 2)) nxS)) nxS) (seqS (asgS (op2 modP (blt intP (consA (op2 addP (op2 mulP (op2 ixP (varE 0) (conE (.int 1))) (conE (.int 40692))) (conE (.int 40853))) nilA)) (conE (.int 2147483563))) (subT (varE 0) (conE (.int 1)))) (seqS (retS (op2 modP (blt intP (consA (op2 fdivP (op2 modP (blt intP (consA (op2 mulP (op2 ixP (varE 0) (conE (.int 1))) (op2 ixP (varE 0) (conE (.int 1)))) nilA)) (conE (.int 2147483549))) (conE (.int 37))) nilA)) (varE 1))) nxS)))
def F_law_draw : List D → M D := fnM 1 false b_law_draw
def b_law_pick : MS := (seqS (retS (op2 ixP (varE 1) (callE 2 F_law_draw (consA (varE 0) (consA (blt lenP (consA (varE 1) nilA)) nilA))))) nxS)
def F_law_pick : List D → M D := fnM 0 false b_law_pick
def b_law_number : MS := (seqS (retS (callE 2 F_law_pick (consA (varE 0) (consA (lstE (consA (conE (.int 0)) (consA (conE (.int 1)) (consA (negE (conE (.int 1))) (consA (conE (.int 2)) (consA (conE (.int 3)) (consA (conE (.int 63)) (consA (conE (.int 64)) (consA (negE (conE (.int 64))) (consA (negE (conE (.int 65))) (consA (conE (.int 8191)) (consA (conE (.int 8192)) (consA (negE (conE (.int 8193))) (consA (op2 powP (conE (.int 10)) (conE (.int 9))) (consA (negE (op2 powP (conE (.int 10)) (conE (.int 9)))) (consA (op2 subP (callE 2 F_law_draw (consA (varE 0) (consA (conE (.int 2001)) nilA))) (conE (.int 1000))) nilA)))))))))))))))) nilA)))) nxS)
def F_law_number : List D → M D := fnM 0 false b_law_number
def lb_law_sum_0 : MS := (seqS (asgS (iteE (boolT (op2 eqP (callE 2 F_law_draw (consA (varE 0) (consA (conE (.int 3)) nilA))) (conE (.int 0)))) (callE 1 F_law_number (consA (varE 0) nilA)) (conE (.int 0))) (nmT 4)) (seqS (ifS (boolT (op2 neP (varE 4) (conE (.int 0)))) (seqS (dropS (mtE (varE 2) (consA (tupE (consA (varE 3) (consA (varE 4) nilA))) nilA) appP)) nxS) nxS) nxS))
def l_law_sum_1 : MS := (forS (rngI1 (varE 1)) (nmT 3) lb_law_sum_0)
def b_law_sum : MS := (seqS (asgS (celE nilA) (nmT 2)) (seqS l_law_sum_1 (seqS (retS (tupE (consA (callE 1 F_law_number (consA (varE 0) nilA)) (consA (blt tupleP (consA (varE 2) nilA)) nilA)))) nxS)))
def F_law_sum : List D → M D := fnM 3 false b_law_sum
def c_law_instruction_0 : DEnv → M D := (lcE (rngI1 (callE 2 F_law_draw (consA (varE 0) (consA (op2 addP (blt minP (consA (conE (.int 4)) (consA (varE 1) nilA))) (conE (.int 1))) nilA)))) (nmT 6) yesT (callE 2 F_law_sum (consA (varE 0) (consA (varE 1) nilA))) [6])
def b_law_instruction : MS := (seqS (asgS (lstE (consA (conE (.str "go")) (consA (conE (.str "jump")) (consA (conE (.str "leave")) (consA (conE (.str "back")) (consA (conE (.str "stop")) nilA)))))) (nmT 4)) (seqS (ifS (notT (truT (varE 3))) (seqS (asgS (op2 addP (op2 addP (varE 4) (lstE (consA (conE (.str "read")) (consA (conE (.str "tell")) (consA (conE (.str "test")) (consA (conE (.str "share")) (consA (conE (.str "call")) (consA (conE (.str "read")) (consA (conE (.str "tell")) (consA (conE (.str "test")) nilA)))))))))) (iteE (boolT (op2 gtP (varE 1) (conE (.int 0)))) (lstE (consA (conE (.str "set")) (consA (conE (.str "set")) nilA))) (lstE nilA))) (nmT 4)) nxS) nxS) (seqS (asgS (callE 2 F_law_pick (consA (varE 0) (consA (varE 4) nilA))) (nmT 5)) (seqS (ifS (boolT (op2 (inP false) (varE 5) (tupE (consA (conE (.str "leave")) (consA (conE (.str "back")) nilA))))) (seqS (retS (tupE (consA (varE 5) nilA))) nxS) nxS) (seqS (ifS (boolT (op2 eqP (varE 5) (conE (.str "stop")))) (seqS (retS (tupE (consA (varE 5) (consA (callE 2 F_law_pick (consA (varE 0) (consA (lstE (consA (conE (.int 0)) (consA (conE (.int 1)) (consA (conE (.int 127)) (consA (conE (.int 128)) (consA (conE (.int 999)) (consA (callE 2 F_law_draw (consA (varE 0) (consA (conE (.int 1000)) nilA))) nilA))))))) nilA))) nilA)))) nxS) nxS) (seqS (ifS (boolT (op2 eqP (varE 5) (conE (.str "read")))) (seqS (retS (tupE (consA (varE 5) (consA (iteE (orT (boolT (op2 eqP (varE 1) (conE (.int 0)))) (boolT (op2 eqP (callE 2 F_law_draw (consA (varE 0) (consA (conE (.int 3)) nilA))) (conE (.int 0))))) (conE .none) (callE 2 F_law_draw (consA (varE 0) (consA (varE 1) nilA)))) nilA)))) nxS) nxS) (seqS (ifS (boolT (op2 eqP (varE 5) (conE (.str "set")))) (seqS (retS (tupE (consA (varE 5) (consA (callE 2 F_law_draw (consA (varE 0) (consA (varE 1) nilA))) (consA (callE 2 F_law_sum (consA (varE 0) (consA (varE 1) nilA))) nilA))))) nxS) nxS) (seqS (ifS (boolT (op2 eqP (varE 5) (conE (.str "tell")))) (seqS (retS (tupE (consA (varE 5) (consA (callE 2 F_law_sum (consA (varE 0) (consA (varE 1) nilA))) nilA)))) nxS) nxS) (seqS (ifS (boolT (op2 (inP false) (varE 5) (tupE (consA (conE (.str "call")) (consA (conE (.str "jump")) nilA))))) (seqS (retS (tupE (consA (varE 5) (consA (callE 2 F_law_draw (consA (varE 0) (consA (varE 2) nilA))) (consA (blt tupleP (consA c_law_instruction_0 nilA)) nilA))))) nxS) nxS) (seqS (retS (tupE (consA (varE 5) (consA (callE 2 F_law_draw (consA (varE 0) (consA (varE 2) nilA))) nilA)))) nxS))))))))))
def F_law_instruction : List D → M D := fnM 3 false b_law_instruction
def c_law_line_0 : DEnv → M D := (lcE (rngI1 (varE 3)) (nmT 4) yesT (callE 4 F_law_instruction (consA (varE 0) (consA (varE 2) (consA (varE 3) (consA (op2 eqP (varE 4) (op2 subP (varE 3) (conE (.int 1)))) nilA))))) [4])
def b_law_line : MS := (seqS (asgS (tupE (consA (callE 2 F_law_pick (consA (varE 0) (consA (lstE (consA (conE (.int 0)) (consA (conE (.int 1)) (consA (conE (.int 2)) (consA (conE (.int 3)) (consA (conE (.int 8)) nilA)))))) nilA))) (consA (op2 addP (conE (.int 1)) (callE 2 F_law_draw (consA (varE 0) (consA (varE 1) nilA)))) nilA))) (tupT [(nmT 2), (nmT 3)])) (seqS (retS (tupE (consA (conE (.str "line")) (consA (varE 2) (consA (blt tupleP (consA c_law_line_0 nilA)) nilA))))) nxS))
def F_law_line : List D → M D := fnM 3 false b_law_line
def c_law_same_0 (F_rec : List D → M D) : DEnv → M D := (lcE (zipI (consA (varE 0) (consA (varE 1) nilA))) (tupT [(nmT 2), (nmT 3)]) yesT (callE 2 F_rec (consA (varE 2) (consA (varE 3) nilA))) [2, 3])
def c_law_same_1 (F_rec : List D → M D) : DEnv → M D := (lcE (zipI (consA (varE 0) (consA (varE 1) nilA))) (tupT [(nmT 2), (nmT 3)]) yesT (callE 2 F_rec (consA (varE 2) (consA (varE 3) nilA))) [2, 3])
def b_law_same (F_rec : List D → M D) : MS := (seqS (ifS (boolT (op2 (isP false) (varE 1) (conE .none))) (seqS (retS (op2 (isP false) (varE 0) (conE .none))) nxS) nxS) (seqS (ifS (truT (isiE [.bool] (varE 1))) (seqS (retS (andE (isiE [.bool] (varE 0)) (op2 eqP (varE 0) (varE 1)))) nxS) nxS) (seqS (ifS (truT (isiE [.str] (varE 1))) (seqS (retS (andE (isiE [.str] (varE 0)) (op2 eqP (varE 0) (varE 1)))) nxS) nxS) (seqS (ifS (truT (isiE [.int] (varE 1))) (seqS (retS (andE (isiE [.int] (varE 0)) (andE (notE (isiE [.bool] (varE 0))) (op2 eqP (varE 0) (varE 1))))) nxS) nxS) (seqS (ifS (truT (isiE [.tuple] (varE 1))) (seqS (ifS (orT (notT (truT (isiE [.tuple] (varE 0)))) (boolT (op2 neP (blt lenP (consA (varE 0) nilA)) (blt lenP (consA (varE 1) nilA))))) (seqS (retS (conE (.bool false))) nxS) nxS) (seqS (retS (blt allP (consA (c_law_same_0 F_rec) nilA))) nxS)) nxS) (seqS (ifS (orT (notT (truT (isiE [.list] (varE 0)))) (boolT (op2 neP (blt lenP (consA (varE 0) nilA)) (blt lenP (consA (varE 1) nilA))))) (seqS (retS (conE (.bool false))) nxS) nxS) (seqS (retS (blt allP (consA (c_law_same_1 F_rec) nilA))) nxS)))))))
def F_law_same : Nat → List D → M D
  | 0 => fun _ _ => .bad
  | n + 1 => fnM 2 false (b_law_same (F_law_same n))
def lb_places_by_0 : MS := (seqS (dropS (mtE (varE 1) (consA (op2 addP (op2 ixP (varE 1) (negE (conE (.int 1)))) (varE 2)) nilA) appP)) nxS)
def l_places_by_1 : MS := (forS (seqI (varE 0)) (nmT 2) lb_places_by_0)
def b_places_by : MS := (seqS (asgS (celE (consA (conE (.int 4)) nilA)) (nmT 1)) (seqS l_places_by_1 (seqS (retS (varE 1)) nxS)))
def F_places_by : List D → M D := fnM 2 false b_places_by
def lb_count_bytes_0 : MS := (seqS (dropS (mtE (varE 1) (consA (op2 addP (conE (.int 128)) (op2 modP (varE 0) (conE (.int 128)))) nilA) appP)) (seqS (asgS (op2 fdivP (varE 0) (conE (.int 128))) (nmT 0)) nxS))
def l_count_bytes_1 : MS := (whileS (boolT (op2 geP (varE 0) (conE (.int 128)))) lb_count_bytes_0)
def b_count_bytes : MS := (seqS (asgS (celE nilA) (nmT 1)) (seqS l_count_bytes_1 (seqS (retS (catC (varE 1) (lstE (consA (varE 0) nilA)))) nxS)))
def F_count_bytes : List D → M D := fnM 1 true b_count_bytes
def b_integer_bytes : MS := (seqS (retS (callE 1 F_count_bytes (consA (iteE (boolT (op2 geP (varE 0) (conE (.int 0)))) (op2 mulP (conE (.int 2)) (varE 0)) (op2 subP (op2 mulP (negE (conE (.int 2))) (varE 0)) (conE (.int 1)))) nilA))) nxS)
def F_integer_bytes : List D → M D := fnM 0 false b_integer_bytes
def lb_sum_bytes_0 : MS := (seqS (dropS (mtE (varE 1) (consA (op2 addP (lstE (consA (varE 2) nilA)) (callE 1 F_integer_bytes (consA (varE 3) nilA))) nilA) extP)) nxS)
def l_sum_bytes_1 : MS := (forS (seqI (op2 ixP (varE 0) (conE (.int 1)))) (tupT [(nmT 2), (nmT 3)]) lb_sum_bytes_0)
def b_sum_bytes : MS := (seqS (asgS (catC (callE 1 F_integer_bytes (consA (op2 ixP (varE 0) (conE (.int 0))) nilA)) (callE 1 F_count_bytes (consA (blt lenP (consA (op2 ixP (varE 0) (conE (.int 1))) nilA)) nilA))) (nmT 1)) (seqS l_sum_bytes_1 (seqS (retS (varE 1)) nxS)))
def F_sum_bytes : List D → M D := fnM 3 false b_sum_bytes
def b_plain_bytes : MS := (seqS (asgS (op2 ixP (varE 0) (conE (.int 0))) (nmT 1)) (seqS (asgS (lstE (consA (kixE [(.str "leave"), (.str "back"), (.str "stop"), (.str "read"), (.str "set"), (.str "tell")] (varE 1)) nilA)) (nmT 2)) (seqS (ifS (boolT (op2 eqP (varE 1) (conE (.str "stop")))) (seqS (retS (op2 addP (varE 2) (callE 1 F_count_bytes (consA (op2 ixP (varE 0) (conE (.int 1))) nilA)))) nxS) nxS) (seqS (ifS (boolT (op2 eqP (varE 1) (conE (.str "read")))) (seqS (retS (op2 addP (varE 2) (lstE (consA (iteE (boolT (op2 (isP false) (op2 ixP (varE 0) (conE (.int 1))) (conE .none))) (conE (.int 255)) (op2 ixP (varE 0) (conE (.int 1)))) nilA)))) nxS) nxS) (seqS (ifS (boolT (op2 eqP (varE 1) (conE (.str "set")))) (seqS (retS (op2 addP (op2 addP (varE 2) (lstE (consA (op2 ixP (varE 0) (conE (.int 1))) nilA))) (callE 1 F_sum_bytes (consA (op2 ixP (varE 0) (conE (.int 2))) nilA)))) nxS) nxS) (seqS (retS (iteE (boolT (op2 eqP (varE 1) (conE (.str "tell")))) (op2 addP (varE 2) (callE 1 F_sum_bytes (consA (op2 ixP (varE 0) (conE (.int 1))) nilA))) (varE 2))) nxS))))))
def F_plain_bytes : List D → M D := fnM 2 false b_plain_bytes
def lb_sums_bytes_0 : MS := (seqS (dropS (mtE (varE 1) (consA (callE 1 F_sum_bytes (consA (varE 2) nilA)) nilA) extP)) nxS)
def l_sums_bytes_1 : MS := (forS (seqI (varE 0)) (nmT 2) lb_sums_bytes_0)
def b_sums_bytes : MS := (seqS (asgS (callE 1 F_count_bytes (consA (blt lenP (consA (varE 0) nilA)) nilA)) (nmT 1)) (seqS l_sums_bytes_1 (seqS (retS (varE 1)) nxS)))
def F_sums_bytes : List D → M D := fnM 2 false b_sums_bytes
def b_tail_bytes : MS := (seqS (retS (iteE (boolT (op2 eqP (blt lenP (consA (varE 0) nilA)) (conE (.int 3)))) (callE 1 F_sums_bytes (consA (op2 ixP (varE 0) (conE (.int 2))) nilA)) (lstE nilA))) nxS)
def F_tail_bytes : List D → M D := fnM 0 false b_tail_bytes
def lb_sizes_of_0 : MS := (seqS (ifS (boolT (op2 (inP false) (op2 ixP (varE 4) (conE (.int 0))) (conE (.tuple [(.str "test"), (.str "go"), (.str "share"), (.str "call"), (.str "jump")])))) (seqS (dropS (mtE (varE 2) (consA (op2 addP (iteE (boolT (op2 (inP false) (varE 3) (varE 1))) (conE (.int 3)) (conE (.int 2))) (blt lenP (consA (callE 1 F_tail_bytes (consA (varE 4) nilA)) nilA))) nilA) appP)) nxS) (seqS (dropS (mtE (varE 2) (consA (blt lenP (consA (callE 1 F_plain_bytes (consA (varE 4) nilA)) nilA)) nilA) appP)) nxS)) nxS)
def l_sizes_of_1 : MS := (forS (enumI (consA (op2 ixP (varE 0) (conE (.int 2))) nilA)) (tupT [(nmT 3), (nmT 4)]) lb_sizes_of_0)
def b_sizes_of : MS := (seqS (asgS (celE nilA) (nmT 2)) (seqS l_sizes_of_1 (seqS (retS (varE 2)) nxS)))
def F_sizes_of : List D → M D := fnM 3 false b_sizes_of
def lb_too_far_0 : MS := (seqS (ifS (andT (boolT (op2 (inP false) (op2 ixP (varE 5) (conE (.int 0))) (conE (.tuple [(.str "test"), (.str "go"), (.str "share"), (.str "call"), (.str "jump")])))) (boolT (op2 (inP true) (varE 4) (varE 1)))) (seqS (asgS (op2 subP (op2 addP (conE (.int 128)) (op2 ixP (varE 2) (op2 ixP (varE 5) (conE (.int 1))))) (op2 ixP (varE 2) (op2 addP (varE 4) (conE (.int 1))))) (nmT 6)) (seqS (ifS (notT (boolT (chainE leP leP (conE (.int 0)) (varE 6) (conE (.int 255))))) (seqS (dropS (mtE (varE 3) (consA (varE 4) nilA) appP)) nxS) nxS) nxS)) nxS) nxS)
def l_too_far_1 : MS := (forS (enumI (consA (op2 ixP (varE 0) (conE (.int 2))) nilA)) (tupT [(nmT 4), (nmT 5)]) lb_too_far_0)
def b_too_far : MS := (seqS (asgS (callE 1 F_places_by (consA (callE 2 F_sizes_of (consA (varE 0) (consA (varE 1) nilA))) nilA)) (nmT 2)) (seqS (asgS (celE nilA) (nmT 3)) (seqS l_too_far_1 (seqS (retS (varE 3)) nxS))))
def F_too_far : List D → M D := fnM 5 false b_too_far
def lb_longs_by_0 : MS := (seqS (asgS (blt sortedP (consA (op2 addP (varE 1) (varE 2)) nilA)) (nmT 1)) (seqS (asgS (callE 2 F_too_far (consA (varE 0) (consA (varE 1) nilA))) (nmT 2)) nxS))
def l_longs_by_1 : MS := (whileS (boolT (op2 neP (varE 2) (lstE nilA))) lb_longs_by_0)
def b_longs_by : MS := (seqS (parS 1 2 (consA (lstE nilA) (consA (callE 2 F_too_far (consA (varE 0) (consA (lstE nilA) nilA))) nilA))) (seqS l_longs_by_1 (seqS (retS (tupE (consA (varE 1) (consA (callE 1 F_places_by (consA (callE 2 F_sizes_of (consA (varE 0) (consA (varE 1) nilA))) nilA)) nilA)))) nxS)))
def F_longs_by : List D → M D := fnM 2 false b_longs_by
def lb_made_by_0 : MS := (seqS (ifS (boolT (op2 (inP true) (op2 ixP (varE 5) (conE (.int 0))) (conE (.tuple [(.str "test"), (.str "go"), (.str "share"), (.str "call"), (.str "jump")])))) (seqS (dropS (mtE (varE 1) (consA (callE 1 F_plain_bytes (consA (varE 5) nilA)) nilA) extP)) (seqS ctS nxS)) nxS) (seqS (parS 6 7 (consA (op2 addP (conE (.int 6)) (op2 mulP (conE (.int 2)) (kixE [(.str "test"), (.str "go"), (.str "share"), (.str "call"), (.str "jump")] (op2 ixP (varE 5) (conE (.int 0)))))) (consA (op2 ixP (varE 3) (op2 ixP (varE 5) (conE (.int 1)))) nilA))) (seqS (ifS (boolT (op2 (inP false) (varE 4) (varE 2))) (seqS (dropS (mtE (varE 1) (consA (lstE (consA (op2 addP (varE 6) (conE (.int 1))) (consA (op2 modP (varE 7) (conE (.int 256))) (consA (op2 fdivP (varE 7) (conE (.int 256))) nilA)))) nilA) extP)) nxS) (seqS (dropS (mtE (varE 1) (consA (lstE (consA (varE 6) (consA (op2 subP (op2 addP (conE (.int 128)) (varE 7)) (op2 ixP (varE 3) (op2 addP (varE 4) (conE (.int 1))))) nilA))) nilA) extP)) nxS)) (seqS (dropS (mtE (varE 1) (consA (callE 1 F_tail_bytes (consA (varE 5) nilA)) nilA) extP)) nxS))))
def l_made_by_1 : MS := (forS (enumI (consA (op2 ixP (varE 0) (conE (.int 2))) nilA)) (tupT [(nmT 4), (nmT 5)]) lb_made_by_0)
def b_made_by : MS := (seqS (asgS (callE 1 F_longs_by (consA (varE 0) nilA)) (tupT [(nmT 2), (nmT 3)])) (seqS (asgS (catC (blt listP (consA (conE (.tuple [(.int 75), (.int 83), (.int 1)])) nilA)) (lstE (consA (op2 ixP (varE 0) (conE (.int 1))) nilA))) (nmT 1)) (seqS l_made_by_1 (seqS (retS (tupE (consA (blt tupleP (consA (varE 1) nilA)) (consA (blt tupleP (consA (slcE (varE 3) noO (someO (negE (conE (.int 1))))) nilA)) nilA)))) nxS))))
def F_made_by : List D → M D := fnM 7 false b_made_by
def b_is_integer : MS := (seqS (retS (andE (isiE [.int] (varE 0)) (notE (isiE [.bool] (varE 0))))) nxS)
def F_is_integer : List D → M D := fnM 0 false b_is_integer
def b_is_count : MS := (seqS (retS (andE (callE 1 F_is_integer (consA (varE 0) nilA)) (op2 geP (varE 0) (conE (.int 0))))) nxS)
def F_is_count : List D → M D := fnM 0 false b_is_count
def b_is_below : MS := (seqS (retS (andE (callE 1 F_is_count (consA (varE 0) nilA)) (op2 ltP (varE 0) (varE 1)))) nxS)
def F_is_below : List D → M D := fnM 0 false b_is_below
def b_is_amount : MS := (seqS (retS (andE (callE 1 F_is_integer (consA (varE 0) nilA)) (chainE leP leP (negE (varE 1)) (varE 0) (varE 1)))) nxS)
def F_is_amount : List D → M D := fnM 0 false b_is_amount
def c_is_rising_0 : DEnv → M D := (lcE (zipI (consA (varE 0) (consA (slcE (varE 0) (someO (conE (.int 1))) noO) nilA))) (tupT [(nmT 1), (nmT 2)]) yesT (op2 ltP (varE 1) (varE 2)) [1, 2])
def b_is_rising : MS := (seqS (retS (blt allP (consA c_is_rising_0 nilA))) nxS)
def F_is_rising : List D → M D := fnM 2 false b_is_rising
def b_is_tuple_of : MS := (seqS (retS (andE (isiE [.tuple] (varE 0)) (op2 eqP (blt lenP (consA (varE 0) nilA)) (varE 1)))) nxS)
def F_is_tuple_of : List D → M D := fnM 0 false b_is_tuple_of
def lb_is_sum_of_0 : MS := (seqS (ifS (orT (notT (truT (callE 2 F_is_tuple_of (consA (varE 2) (consA (conE (.int 2)) nilA))))) (orT (notT (truT (callE 1 F_is_count (consA (op2 ixP (varE 2) (conE (.int 0))) nilA)))) (boolT (op2 geP (op2 ixP (varE 2) (conE (.int 0))) (varE 1))))) (seqS (retS (conE (.bool false))) nxS) nxS) (seqS (ifS (orT (notT (truT (callE 2 F_is_amount (consA (op2 ixP (varE 2) (conE (.int 1))) (consA (conE (.int 1000000000)) nilA))))) (boolT (op2 eqP (op2 ixP (varE 2) (conE (.int 1))) (conE (.int 0))))) (seqS (retS (conE (.bool false))) nxS) nxS) nxS))
def l_is_sum_of_1 : MS := (forS (seqI (op2 ixP (varE 0) (conE (.int 1)))) (nmT 2) lb_is_sum_of_0)
def c_is_sum_of_2 : DEnv → M D := (lcE (seqI (op2 ixP (varE 0) (conE (.int 1)))) (nmT 2) yesT (op2 ixP (varE 2) (conE (.int 0))) [2])
def b_is_sum_of : MS := (seqS (ifS (orT (notT (truT (callE 2 F_is_tuple_of (consA (varE 0) (consA (conE (.int 2)) nilA))))) (orT (notT (truT (callE 2 F_is_amount (consA (op2 ixP (varE 0) (conE (.int 0))) (consA (conE (.int 1000000000)) nilA))))) (notT (truT (isiE [.tuple] (op2 ixP (varE 0) (conE (.int 1)))))))) (seqS (retS (conE (.bool false))) nxS) nxS) (seqS l_is_sum_of_1 (seqS (retS (callE 1 F_is_rising (consA c_is_sum_of_2 nilA))) nxS)))
def F_is_sum_of : List D → M D := fnM 1 false b_is_sum_of
def c_are_sums_0 : DEnv → M D := (lcE (seqI (varE 0)) (nmT 2) yesT (callE 2 F_is_sum_of (consA (varE 2) (consA (varE 1) nilA))) [2])
def b_are_sums : MS := (seqS (ifS (orT (notT (truT (isiE [.tuple] (varE 0)))) (boolT (op2 gtP (blt lenP (consA (varE 0) nilA)) (blt minP (consA (conE (.int 4)) (consA (varE 1) nilA)))))) (seqS (retS (conE (.bool false))) nxS) nxS) (seqS (retS (blt allP (consA c_are_sums_0 nilA))) nxS))
def F_are_sums : List D → M D := fnM 1 false b_are_sums
def b_is_instruction : MS := (seqS (ifS (orT (notT (truT (isiE [.tuple] (varE 0)))) (orT (boolT (op2 eqP (varE 0) (tupE nilA))) (notT (truT (isiE [.str] (op2 ixP (varE 0) (conE (.int 0)))))))) (seqS (retS (conE (.bool false))) nxS) nxS) (seqS (asgS (op2 ixP (varE 0) (conE (.int 0))) (nmT 3)) (seqS (ifS (boolT (op2 (inP false) (varE 3) (tupE (consA (conE (.str "leave")) (consA (conE (.str "back")) nilA))))) (seqS (retS (op2 eqP (blt lenP (consA (varE 0) nilA)) (conE (.int 1)))) nxS) nxS) (seqS (ifS (boolT (op2 (inP false) (varE 3) (conE (.tuple [(.str "call"), (.str "jump")])))) (seqS (retS (andE (op2 eqP (blt lenP (consA (varE 0) nilA)) (conE (.int 3))) (andE (callE 2 F_is_below (consA (op2 ixP (varE 0) (conE (.int 1))) (consA (varE 2) nilA))) (callE 2 F_are_sums (consA (op2 ixP (varE 0) (conE (.int 2))) (consA (varE 1) nilA)))))) nxS) nxS) (seqS (ifS (boolT (op2 eqP (varE 3) (conE (.str "set")))) (seqS (retS (andE (op2 eqP (blt lenP (consA (varE 0) nilA)) (conE (.int 3))) (andE (callE 2 F_is_below (consA (op2 ixP (varE 0) (conE (.int 1))) (consA (varE 1) nilA))) (callE 2 F_is_sum_of (consA (op2 ixP (varE 0) (conE (.int 2))) (consA (varE 1) nilA)))))) nxS) nxS) (seqS (ifS (boolT (op2 neP (blt lenP (consA (varE 0) nilA)) (conE (.int 2)))) (seqS (retS (conE (.bool false))) nxS) nxS) (seqS (ifS (boolT (op2 eqP (varE 3) (conE (.str "stop")))) (seqS (retS (callE 2 F_is_below (consA (op2 ixP (varE 0) (conE (.int 1))) (consA (op2 addP (conE (.int 999)) (conE (.int 1))) nilA)))) nxS) nxS) (seqS (ifS (boolT (op2 eqP (varE 3) (conE (.str "read")))) (seqS (retS (orE (op2 (isP false) (op2 ixP (varE 0) (conE (.int 1))) (conE .none)) (callE 2 F_is_below (consA (op2 ixP (varE 0) (conE (.int 1))) (consA (varE 1) nilA))))) nxS) nxS) (seqS (ifS (boolT (op2 eqP (varE 3) (conE (.str "tell")))) (seqS (retS (callE 2 F_is_sum_of (consA (op2 ixP (varE 0) (conE (.int 1))) (consA (varE 1) nilA)))) nxS) nxS) (seqS (retS (andE (op2 (inP false) (varE 3) (conE (.tuple [(.str "test"), (.str "go"), (.str "share")]))) (callE 2 F_is_below (consA (op2 ixP (varE 0) (conE (.int 1))) (consA (varE 2) nilA))))) nxS))))))))))
def F_is_instruction : List D → M D := fnM 1 false b_is_instruction
def c_is_line_0 : DEnv → M D := (lcE (seqI (varE 2)) (nmT 3) yesT (callE 3 F_is_instruction (consA (varE 3) (consA (varE 1) (consA (blt lenP (consA (varE 2) nilA)) nilA)))) [3])
def b_is_line : MS := (seqS (ifS (orT (notT (truT (callE 2 F_is_tuple_of (consA (varE 0) (consA (conE (.int 3)) nilA))))) (orT (boolT (op2 neP (op2 ixP (varE 0) (conE (.int 0))) (conE (.str "line")))) (notT (truT (callE 2 F_is_below (consA (op2 ixP (varE 0) (conE (.int 1))) (consA (op2 addP (conE (.int 8)) (conE (.int 1))) nilA))))))) (seqS (retS (conE (.bool false))) nxS) nxS) (seqS (asgS (tupE (consA (op2 ixP (varE 0) (conE (.int 1))) (consA (op2 ixP (varE 0) (conE (.int 2))) nilA))) (tupT [(nmT 1), (nmT 2)])) (seqS (ifS (orT (notT (truT (isiE [.tuple] (varE 2)))) (notT (boolT (chainE leP leP (conE (.int 1)) (blt lenP (consA (varE 2) nilA)) (conE (.int 1000)))))) (seqS (retS (conE (.bool false))) nxS) nxS) (seqS (ifS (notT (truT (blt allP (consA c_is_line_0 nilA)))) (seqS (retS (conE (.bool false))) nxS) nxS) (seqS (retS (op2 (inP false) (op2 ixP (op2 ixP (varE 2) (negE (conE (.int 1)))) (conE (.int 0))) (conE (.tuple [(.str "leave"), (.str "back"), (.str "stop"), (.str "go"), (.str "jump")])))) nxS)))))
def F_is_line : List D → M D := fnM 3 false b_is_line
def b_want_line : MS := (seqS (ifS (notT (truT (callE 1 F_is_line (consA (varE 0) nilA)))) (seqS neverS nxS) nxS) (seqS (retS (varE 0)) nxS))
def F_want_line : List D → M D := fnM 0 false b_want_line
def b_want_size : MS := (seqS (ifS (boolT (op2 gtP (op2 ixP (op2 ixP (callE 1 F_longs_by (consA (varE 0) nilA)) (conE (.int 1))) (negE (conE (.int 1)))) (conE (.int 65536)))) (seqS neverS nxS) nxS) nxS)
def F_want_size : List D → M D := fnM 0 false b_want_size
def b_code_of_line : MS := (seqS (dropS (callE 1 F_want_size (consA (callE 1 F_want_line (consA (varE 0) nilA)) nilA))) (seqS (retS (op2 ixP (callE 1 F_made_by (consA (varE 0) nilA)) (conE (.int 0)))) nxS))
def F_code_of_line : List D → M D := fnM 0 false b_code_of_line
def b_longs : MS := (seqS (dropS (callE 1 F_want_size (consA (callE 1 F_want_line (consA (varE 0) nilA)) nilA))) (seqS (retS (blt tupleP (consA (op2 ixP (callE 1 F_longs_by (consA (varE 0) nilA)) (conE (.int 0))) nilA))) nxS))
def F_longs : List D → M D := fnM 0 false b_longs
def b_positions : MS := (seqS (dropS (callE 1 F_want_size (consA (callE 1 F_want_line (consA (varE 0) nilA)) nilA))) (seqS (retS (blt tupleP (consA (slcE (op2 ixP (callE 1 F_longs_by (consA (varE 0) nilA)) (conE (.int 1))) noO (someO (negE (conE (.int 1))))) nilA))) nxS))
def F_positions : List D → M D := fnM 0 false b_positions
def b_law_right : MS := (seqS (asgS (callE 2 F_law_line (consA (varE 0) (consA (varE 1) nilA))) (nmT 2)) (seqS (parS 3 4 (consA (blt reprP (consA (varE 2) nilA)) (consA (callE 1 F_law_least (consA (varE 2) nilA)) nilA))) (seqS (asgS (callE 2 F_law_packed (consA (varE 2) (consA (varE 4) nilA))) (tupT [(nmT 5), (nmT 6), (nmT 7)])) (seqS (ifS (orT (notT (truT (callE 2 (F_law_same 6) (consA (lstE (consA (callE 1 F_code_of_line (consA (varE 2) nilA)) (consA (callK 1 F_code_of_line [0] nilA (consA (varE 2) nilA)) nilA))) (consA (lstE (consA (blt tupleP (consA (varE 5) nilA)) (consA (blt tupleP (consA (varE 5) nilA)) nilA))) nilA))))) (boolT (op2 neP (varE 7) (lstE nilA)))) (seqS (retS (conE (.bool false))) nxS) nxS) (seqS (ifS (notT (truT (callE 2 (F_law_same 6) (consA (lstE (consA (callE 1 F_positions (consA (varE 2) nilA)) (consA (callK 1 F_positions [0] nilA (consA (varE 2) nilA)) nilA))) (consA (op2 mulP (lstE (consA (blt tupleP (consA (slcE (varE 6) noO (someO (negE (conE (.int 1))))) nilA)) nilA)) (conE (.int 2))) nilA))))) (seqS (retS (conE (.bool false))) nxS) nxS) (seqS (retS (andE (callE 2 (F_law_same 6) (consA (lstE (consA (callE 1 F_longs (consA (varE 2) nilA)) (consA (callK 1 F_longs [0] nilA (consA (varE 2) nilA)) nilA))) (consA (op2 mulP (lstE (consA (blt tupleP (consA (varE 4) nilA)) nilA)) (conE (.int 2))) nilA))) (op2 eqP (blt reprP (consA (varE 2) nilA)) (varE 3)))) nxS))))))
def F_law_right : List D → M D := fnM 6 false b_law_right
def c_law_0 : DEnv → M D := (lcE (seqI (tupE (consA (conE (.int 3)) (consA (conE (.int 9)) (consA (conE (.int 30)) nilA))))) (nmT 3) yesT (callE 2 F_law_right (consA (varE 2) (consA (varE 3) nilA))) [3])
def lb_law_1 : MS := (seqS (asgS (callE 2 F_law_pot (consA (varE 0) (consA (varE 1) nilA))) (nmT 2)) (seqS (ifS (notT (truT (blt allP (consA c_law_0 nilA)))) (seqS (retS (conE (.bool false))) nxS) nxS) nxS))
def l_law_2 : MS := (forS (rngI1 (blt maxP (consA (conE (.int 1)) (consA (blt minP (consA (conE (.int 2)) (consA (blt lenP (consA (varE 0) nilA)) nilA))) nilA)))) (nmT 1) lb_law_1)
def b_law : MS := (seqS l_law_2 (seqS (retS (conE (.bool true))) nxS))
def F_law : List D → M D := fnM 3 false b_law
/-! ### they do so -/
section
variable {P : Program} {w : World} {K : PySem.W.Frag} {mg : Str → Option Value} {base : Heap}
abbrev Fx (K : PySem.W.Frag) (mg : Str → Option Value) (base : Heap) : Prop := Fc top dls frs cns K mg base
theorem sc_law_pot : FnScope ["script", "k", "cell"] ["script", "k"] (defScope s_law_pot) := ⟨rfl, rfl, rfl, by decide +kernel, rfl, by decide +kernel, by decide +kernel⟩
theorem d_law_pot (c : Fx K mg base) : DefX P w K mg base 1 "_law_pot" s_law_pot ["script", "k"] F_law_pot := by
  have h_len := c.free 0 rfl
  have h_abs := c.free 1 rfl
  have h_max := c.free 2 rfl
  have h_int := c.free 3 rfl
  refine DefX.mk (k := 0) (N := ["script", "k", "cell"]) (c.def_ 26 rfl) sc_law_pot true rfl fun f cd A outer s H E hr hg => ?_
  have sc := sc_law_pot
  have tk := @takes_b P w K mg base "_law_pot" (defScope s_law_pot) f ["script", "k", "cell"] cd A outer s H E
  exact (ss_cons (ss_set sc.nd rfl (.inl rfl) (se_ite (st_cmp g_lt (se_var (i := 1) rfl (vis_of rfl) rfl rfl) (se_bltn c_len rfl h_len boot_len (sa_cons (se_var (i := 0) rfl (vis_of rfl) rfl rfl) sa_nil rfl) (by decide) (by decide) rfl rfl) (nomark _)) (se_bltn c_abs rfl h_abs boot_abs (sa_cons (se_ix (se_var (i := 0) rfl (vis_of rfl) rfl rfl) (se_var (i := 1) rfl (vis_of rfl) rfl rfl) (fun _ _ => rfl)) sa_nil rfl) (by decide) (by decide) rfl rfl) (se_bin g_add (se_bin g_mul se_int (se_var (i := 1) rfl (vis_of rfl) rfl rfl)) se_int)) rfl (.inl rfl)) (ss_cons (ss_ret (se_cel (sa_cons (se_bltn (c_max rfl) rfl h_max boot_max (sa_cons se_int (sa_cons (se_bin g_sub (se_var (i := 2) rfl (vis_of rfl) rfl rfl) (se_bin g_pow se_int se_int)) sa_nil rfl) rfl) (by decide) (by decide) rfl rfl) (sa_cons (se_bin g_add (se_bin g_mod (se_btyp c_int rfl h_int boot_int (sa_cons (se_bin g_add (se_bin g_add (se_bin g_mul (se_bin g_mod (se_btyp c_int rfl h_int boot_int (sa_cons (se_var (i := 2) rfl (vis_of rfl) rfl rfl) sa_nil rfl) (by decide) (by decide) rfl rfl) se_int) se_int) (se_bin g_mul se_int (se_var (i := 1) rfl (vis_of rfl) rfl rfl))) se_int) sa_nil rfl) (by decide) (by decide) rfl rfl) se_int) se_int) sa_nil rfl) rfl))) ss_nil))
theorem sc_law_count : FnScope ["number"] ["number"] (defScope s_law_count) := ⟨rfl, rfl, rfl, by decide +kernel, rfl, by decide +kernel, by decide +kernel⟩
theorem d_law_count (c : Fx K mg base) : ∀ n : Nat, DefX P w K mg base (1 + n) "_law_count" s_law_count ["number"] (F_law_count n)
  | 0 => DefX.zero (c.def_ 33 rfl)
  | n + 1 => by
    have h_int := c.free 3 rfl
    obtain ⟨f__law_count, fd__law_count, D__law_count, m__law_count, G__law_count⟩ := d_law_count c n
    refine DefX.mk (k := 1 + n) (N := ["number"]) (c.def_ 33 rfl) sc_law_count false rfl fun f cd A outer s H E hr hg => ?_
    have sc := sc_law_count
    have tk := @takes_b P w K mg base "_law_count" (defScope s_law_count) f ["number"] cd A outer s H E
    exact (ss_cons (ss_ret (se_ite (st_cmp g_lt (se_var (i := 0) rfl (vis_of rfl) rfl rfl) se_int (nomark _)) (se_lst (sa_cons (se_var (i := 0) rfl (vis_of rfl) rfl rfl) sa_nil rfl)) (se_bin g_add (se_lst (sa_cons (se_bin g_add se_int (se_bin g_mod (se_btyp c_int rfl h_int boot_int (sa_cons (se_var (i := 0) rfl (vis_of rfl) rfl rfl) sa_nil rfl) (by decide) (by decide) rfl rfl) se_int)) sa_nil rfl)) (se_call (ps := ["number"]) ⟨G__law_count, m__law_count, D__law_count.kp⟩ (hr.mono (by first | decide | omega)) hg tk (bd_plain D__law_count fun _ _ _ _ _ _ us hl => match us, hl with | [_], _ => rfl) rfl (sa_cons (se_bin g_fdiv (se_btyp c_int rfl h_int boot_int (sa_cons (se_var (i := 0) rfl (vis_of rfl) rfl rfl) sa_nil rfl) (by decide) (by decide) rfl rfl) se_int) sa_nil rfl) rfl rfl rfl)))) ss_nil)
theorem sc_law_integer : FnScope ["number"] ["number"] (defScope s_law_integer) := ⟨rfl, rfl, rfl, by decide +kernel, rfl, by decide +kernel, by decide +kernel⟩
theorem d_law_integer (c : Fx K mg base) : DefX P w K mg base 10 "_law_integer" s_law_integer ["number"] F_law_integer := by
  obtain ⟨f__law_count, fd__law_count, D__law_count, m__law_count, G__law_count⟩ := d_law_count c 8
  refine DefX.mk (k := 9) (N := ["number"]) (c.def_ 34 rfl) sc_law_integer false rfl fun f cd A outer s H E hr hg => ?_
  have sc := sc_law_integer
  have tk := @takes_b P w K mg base "_law_integer" (defScope s_law_integer) f ["number"] cd A outer s H E
  exact (ss_cons (ss_ret (se_call (ps := ["number"]) ⟨G__law_count, m__law_count, D__law_count.kp⟩ (hr.mono (by first | decide | omega)) hg tk (bd_plain D__law_count fun _ _ _ _ _ _ us hl => match us, hl with | [_], _ => rfl) rfl (sa_cons (se_ite (st_cmp g_ge (se_var (i := 0) rfl (vis_of rfl) rfl rfl) se_int (nomark _)) (se_bin g_mul se_int (se_var (i := 0) rfl (vis_of rfl) rfl rfl)) (se_bin g_sub (se_bin g_mul (se_neg se_int) (se_var (i := 0) rfl (vis_of rfl) rfl rfl)) se_int)) sa_nil rfl) rfl rfl rfl)) ss_nil)
theorem sc_law_sum_bytes : FnScope ["one", "found", "slot", "times"] ["one"] (defScope s_law_sum_bytes) := ⟨rfl, rfl, rfl, by decide +kernel, rfl, by decide +kernel, by decide +kernel⟩
theorem d_law_sum_bytes (c : Fx K mg base) : DefX P w K mg base 11 "_law_sum_bytes" s_law_sum_bytes ["one"] F_law_sum_bytes := by
  obtain ⟨f__law_integer, fd__law_integer, D__law_integer, m__law_integer, G__law_integer⟩ := d_law_integer c
  obtain ⟨f__law_count, fd__law_count, D__law_count, m__law_count, G__law_count⟩ := d_law_count c 8
  have h_len := c.free 0 rfl
  refine DefX.mk (k := 10) (N := ["one", "found", "slot", "times"]) (c.def_ 35 rfl) sc_law_sum_bytes false rfl fun f cd A outer s H E hr hg => ?_
  have sc := sc_law_sum_bytes
  have tk := @takes_b P w K mg base "_law_sum_bytes" (defScope s_law_sum_bytes) f ["one", "found", "slot", "times"] cd A outer s H E
  exact (ss_cons (ss_set sc.nd rfl (.inl rfl) (se_bin g_add (se_call (ps := ["number"]) ⟨G__law_integer, m__law_integer, D__law_integer.kp⟩ (hr.mono (by first | decide | omega)) hg tk (bd_plain D__law_integer fun _ _ _ _ _ _ us hl => match us, hl with | [_], _ => rfl) rfl (sa_cons (se_ix (se_var (i := 0) rfl (vis_of rfl) rfl rfl) se_int (fun _ _ => rfl)) sa_nil rfl) rfl rfl rfl) (se_call (ps := ["number"]) ⟨G__law_count, m__law_count, D__law_count.kp⟩ (hr.mono (by first | decide | omega)) hg tk (bd_plain D__law_count fun _ _ _ _ _ _ us hl => match us, hl with | [_], _ => rfl) rfl (sa_cons (se_bltn c_len rfl h_len boot_len (sa_cons (se_ix (se_var (i := 0) rfl (vis_of rfl) rfl rfl) se_int (fun _ _ => rfl)) sa_nil rfl) (by decide) (by decide) rfl rfl) sa_nil rfl) rfl rfl rfl)) rfl (.inl rfl)) (ss_cons (ss_for passes_b rfl (si_seq (se_ix (se_var (i := 0) rfl (vis_of rfl) rfl rfl) se_int (fun _ _ => rfl))) (st_tup (n := 2) rfl (st2_cons (st_name sc.nd rfl (.inl rfl) (.inl rfl)) (st2_cons (st_name sc.nd rfl (.inl rfl) (.inl rfl)) st2_nil rfl) rfl) rfl rfl rfl) (ss_cons (ss_set sc.nd rfl (.inl rfl) (se_bin g_add (se_bin g_add (se_var (i := 1) rfl (vis_of rfl) rfl rfl) (se_lst (sa_cons (se_var (i := 2) rfl (vis_of rfl) rfl rfl) sa_nil rfl))) (se_call (ps := ["number"]) ⟨G__law_integer, m__law_integer, D__law_integer.kp⟩ (hr.mono (by first | decide | omega)) hg tk (bd_plain D__law_integer fun _ _ _ _ _ _ us hl => match us, hl with | [_], _ => rfl) rfl (sa_cons (se_var (i := 3) rfl (vis_of rfl) rfl rfl) sa_nil rfl) rfl rfl rfl)) rfl (.inl rfl)) ss_nil) (fun _ => rfl)) (ss_cons (ss_ret (se_var (i := 1) rfl (vis_of rfl) rfl rfl)) ss_nil)))
theorem sc_law_parts : FnScope ["one", "word", "found", "each"] ["one"] (defScope s_law_parts) := ⟨rfl, rfl, rfl, by decide +kernel, rfl, by decide +kernel, by decide +kernel⟩
theorem d_law_parts (c : Fx K mg base) : DefX P w K mg base 12 "_law_parts" s_law_parts ["one"] F_law_parts := by
  obtain ⟨f__law_count, fd__law_count, D__law_count, m__law_count, G__law_count⟩ := d_law_count c 8
  obtain ⟨f__law_sum_bytes, fd__law_sum_bytes, D__law_sum_bytes, m__law_sum_bytes, G__law_sum_bytes⟩ := d_law_sum_bytes c
  have h_len := c.free 0 rfl
  refine DefX.mk (k := 11) (N := ["one", "word", "found", "each"]) (c.def_ 36 rfl) sc_law_parts false rfl fun f cd A outer s H E hr hg => ?_
  have sc := sc_law_parts
  have tk := @takes_b P w K mg base "_law_parts" (defScope s_law_parts) f ["one", "word", "found", "each"] cd A outer s H E
  exact (ss_cons (ss_set sc.nd rfl (.inl rfl) (se_lix (se_lst (sa_cons se_str (sa_cons se_str (sa_cons se_str (sa_cons se_str (sa_cons se_str (sa_cons se_str (sa_cons se_str (sa_cons se_str (sa_cons se_str (sa_cons se_str (sa_cons se_str (sa_cons se_str (sa_cons se_str (sa_cons se_str (sa_cons se_str sa_nil rfl) rfl) rfl) rfl) rfl) rfl) rfl) rfl) rfl) rfl) rfl) rfl) rfl) rfl) rfl)) (se_ix (se_var (i := 0) rfl (vis_of rfl) rfl rfl) se_int (fun _ _ => rfl)) rfl rfl rfl rfl rfl) rfl (.inl rfl)) (ss_cons (ss_if (st_cmp g_lt (se_var (i := 1) rfl (vis_of rfl) rfl rfl) se_int (nomark _)) (ss_cons (ss_ret (se_tup (sa_cons (se_var (i := 1) rfl (vis_of rfl) rfl rfl) (sa_cons (se_lst sa_nil) sa_nil rfl) rfl))) ss_nil) ss_nil) (ss_cons (ss_if (st_cmp (g_eq hr.units) (se_var (i := 1) rfl (vis_of rfl) rfl rfl) se_int (nomark _)) (ss_cons (ss_ret (se_tup (sa_cons (se_var (i := 1) rfl (vis_of rfl) rfl rfl) (sa_cons (se_call (ps := ["number"]) ⟨G__law_count, m__law_count, D__law_count.kp⟩ (hr.mono (by first | decide | omega)) hg tk (bd_plain D__law_count fun _ _ _ _ _ _ us hl => match us, hl with | [_], _ => rfl) rfl (sa_cons (se_ix (se_var (i := 0) rfl (vis_of rfl) rfl rfl) se_int (fun _ _ => rfl)) sa_nil rfl) rfl rfl rfl) sa_nil rfl) rfl))) ss_nil) ss_nil) (ss_cons (ss_if (st_cmp (g_eq hr.units) (se_var (i := 1) rfl (vis_of rfl) rfl rfl) se_int (nomark _)) (ss_cons (ss_ret (se_tup (sa_cons (se_var (i := 1) rfl (vis_of rfl) rfl rfl) (sa_cons (se_lst (sa_cons (se_ite (st_cmp g_is (se_ix (se_var (i := 0) rfl (vis_of rfl) rfl rfl) se_int (fun _ _ => rfl)) se_non (nomark _)) se_int (se_ix (se_var (i := 0) rfl (vis_of rfl) rfl rfl) se_int (fun _ _ => rfl))) sa_nil rfl)) sa_nil rfl) rfl))) ss_nil) ss_nil) (ss_cons (ss_if (st_cmp (g_eq hr.units) (se_var (i := 1) rfl (vis_of rfl) rfl rfl) se_int (nomark _)) (ss_cons (ss_ret (se_tup (sa_cons (se_var (i := 1) rfl (vis_of rfl) rfl rfl) (sa_cons (se_bin g_add (se_lst (sa_cons (se_ix (se_var (i := 0) rfl (vis_of rfl) rfl rfl) se_int (fun _ _ => rfl)) sa_nil rfl)) (se_call (ps := ["one"]) ⟨G__law_sum_bytes, m__law_sum_bytes, D__law_sum_bytes.kp⟩ (hr.mono (by first | decide | omega)) hg tk (bd_plain D__law_sum_bytes fun _ _ _ _ _ _ us hl => match us, hl with | [_], _ => rfl) rfl (sa_cons (se_ix (se_var (i := 0) rfl (vis_of rfl) rfl rfl) se_int (fun _ _ => rfl)) sa_nil rfl) rfl rfl rfl)) sa_nil rfl) rfl))) ss_nil) ss_nil) (ss_cons (ss_if (st_cmp (g_eq hr.units) (se_var (i := 1) rfl (vis_of rfl) rfl rfl) se_int (nomark _)) (ss_cons (ss_ret (se_tup (sa_cons (se_var (i := 1) rfl (vis_of rfl) rfl rfl) (sa_cons (se_call (ps := ["one"]) ⟨G__law_sum_bytes, m__law_sum_bytes, D__law_sum_bytes.kp⟩ (hr.mono (by first | decide | omega)) hg tk (bd_plain D__law_sum_bytes fun _ _ _ _ _ _ us hl => match us, hl with | [_], _ => rfl) rfl (sa_cons (se_ix (se_var (i := 0) rfl (vis_of rfl) rfl rfl) se_int (fun _ _ => rfl)) sa_nil rfl) rfl rfl rfl) sa_nil rfl) rfl))) ss_nil) ss_nil) (ss_cons (ss_if (st_cmp g_lt (se_var (i := 1) rfl (vis_of rfl) rfl rfl) se_int (nomark _)) (ss_cons (ss_ret (se_tup (sa_cons (se_var (i := 1) rfl (vis_of rfl) rfl rfl) (sa_cons (se_lst sa_nil) sa_nil rfl) rfl))) ss_nil) ss_nil) (ss_cons (ss_set sc.nd rfl (.inl rfl) (se_call (ps := ["number"]) ⟨G__law_count, m__law_count, D__law_count.kp⟩ (hr.mono (by first | decide | omega)) hg tk (bd_plain D__law_count fun _ _ _ _ _ _ us hl => match us, hl with | [_], _ => rfl) rfl (sa_cons (se_bltn c_len rfl h_len boot_len (sa_cons (se_ix (se_var (i := 0) rfl (vis_of rfl) rfl rfl) se_int (fun _ _ => rfl)) sa_nil rfl) (by decide) (by decide) rfl rfl) sa_nil rfl) rfl rfl rfl) rfl (.inl rfl)) (ss_cons (ss_for passes_b rfl (si_seq (se_ix (se_var (i := 0) rfl (vis_of rfl) rfl rfl) se_int (fun _ _ => rfl))) (st_name sc.nd rfl (.inl rfl) (.inl rfl)) (ss_cons (ss_set sc.nd rfl (.inl rfl) (se_bin g_add (se_var (i := 2) rfl (vis_of rfl) rfl rfl) (se_call (ps := ["one"]) ⟨G__law_sum_bytes, m__law_sum_bytes, D__law_sum_bytes.kp⟩ (hr.mono (by first | decide | omega)) hg tk (bd_plain D__law_sum_bytes fun _ _ _ _ _ _ us hl => match us, hl with | [_], _ => rfl) rfl (sa_cons (se_var (i := 3) rfl (vis_of rfl) rfl rfl) sa_nil rfl) rfl rfl rfl)) rfl (.inl rfl)) ss_nil) (fun _ => rfl)) (ss_cons (ss_ret (se_tup (sa_cons (se_var (i := 1) rfl (vis_of rfl) rfl rfl) (sa_cons (se_var (i := 2) rfl (vis_of rfl) rfl rfl) sa_nil rfl) rfl))) ss_nil))))))))))
theorem sc_law_packed : FnScope ["line", "far", "parts", "places", "at", "found", "bad", "to", "one", "word", "rest", "byte"] ["line", "far"] (defScope s_law_packed) := ⟨rfl, rfl, rfl, by decide +kernel, rfl, by decide +kernel, by decide +kernel⟩
theorem d_law_packed (c : Fx K mg base) : DefX P w K mg base 13 "_law_packed" s_law_packed ["line", "far"] F_law_packed := by
  obtain ⟨f__law_parts, fd__law_parts, D__law_parts, m__law_parts, G__law_parts⟩ := d_law_parts c
  have h_enumerate := c.free 4 rfl
  have h_len := c.free 0 rfl
  have h_int := c.free 3 rfl
  refine DefX.mk (k := 12) (N := ["line", "far", "parts", "places", "at", "found", "bad", "to", "one", "word", "rest", "byte"]) (c.def_ 37 rfl) sc_law_packed false rfl fun f cd A outer s H E hr hg => ?_
  have sc := sc_law_packed
  have tk := @takes_b P w K mg base "_law_packed" (defScope s_law_packed) f ["line", "far", "parts", "places", "at", "found", "bad", "to", "one", "word", "rest", "byte"] cd A outer s H E
  exact (ss_cons (ss_lcE (i := 2) (own := [(("one" : Str), 8)]) rfl sc.nd (by exact (si_seq (se_ix (se_var (i := 0) rfl (vis_of rfl) rfl rfl) se_int (fun _ _ => rfl)))) (blkOk_by (N := ["line", "far", "parts", "places", "at", "found", "bad", "to", "one", "word", "rest", "byte"]) (sc := defScope s_law_packed) (by decide +kernel)) (fun _ _ _ _ _ => (sv_name sc.nd rfl (.inl rfl) (.inr rfl) (by decide))) (fun _ _ _ _ _ => sts_nil) (fun _ _ _ _ _ => (by exact (se_call (ps := ["one"]) ⟨G__law_parts, m__law_parts, D__law_parts.kp⟩ (hr.mono (by first | decide | omega)) hg takes0 (bd_plain D__law_parts fun _ _ _ _ _ _ us hl => match us, hl with | [_], _ => rfl) rfl (sa_cons (se_var (i := 8) rfl (vis_of rfl) rfl rfl) sa_nil rfl) rfl rfl rfl))) (fun _ => rfl) rfl rfl rfl) (ss_cons (ss_set sc.nd rfl (.inl rfl) (se_cel (sa_cons se_int sa_nil rfl)) rfl (.inl rfl)) (ss_cons (ss_for passes_b rfl (si_enum rfl h_enumerate (sa_cons (se_var (i := 2) rfl (vis_of rfl) rfl rfl) sa_nil rfl) rfl) (st_tup (n := 2) rfl (st2_cons (st_name sc.nd rfl (.inl rfl) (.inl rfl)) (st2_cons (st_tup (n := 2) rfl (st2_cons (st_name sc.nd rfl (.inl rfl) (.inl rfl)) (st2_cons (st_name sc.nd rfl (.inl rfl) (.inl rfl)) st2_nil rfl) rfl) rfl rfl rfl) st2_nil rfl) rfl) rfl rfl rfl) (ss_cons (ss_expr (se_mt F.slot_list_append F.type_list_append m_app (se_var (i := 3) rfl (vis_of rfl) rfl rfl) (sa_cons (se_bin g_add (se_bin g_add (se_bin g_add (se_ix (se_var (i := 3) rfl (vis_of rfl) rfl rfl) (se_neg se_int) (fun _ _ => rfl)) se_int) (se_bltn c_len rfl h_len boot_len (sa_cons (se_var (i := 10) rfl (vis_of rfl) rfl rfl) sa_nil rfl) (by decide) (by decide) rfl rfl)) (se_ite (st_cmp g_lt (se_var (i := 9) rfl (vis_of rfl) rfl rfl) se_int (nomark _)) se_int (se_ite (st_cmp (g_in hr.units) (se_var (i := 4) rfl (vis_of rfl) rfl rfl) (se_var (i := 1) rfl (vis_of rfl) rfl rfl) rfl) se_int se_int))) sa_nil rfl) rfl rfl rfl rfl rfl) rfl) ss_nil) (fun _ => rfl)) (ss_cons (ss_par (i := 5) (j := 6) rfl sc.nd rfl rfl (by decide) rfl rfl (sa_cons (se_lst (sa_cons se_int (sa_cons se_int (sa_cons se_int (sa_cons (se_ix (se_var (i := 0) rfl (vis_of rfl) rfl rfl) se_int (fun _ _ => rfl)) sa_nil rfl) rfl) rfl) rfl)) (sa_cons (se_lst sa_nil) sa_nil rfl) rfl) rfl rfl) (ss_cons (ss_for passes_b rfl (si_enum rfl h_enumerate (sa_cons (se_var (i := 2) rfl (vis_of rfl) rfl rfl) sa_nil rfl) rfl) (st_tup (n := 2) rfl (st2_cons (st_name sc.nd rfl (.inl rfl) (.inl rfl)) (st2_cons (st_tup (n := 2) rfl (st2_cons (st_name sc.nd rfl (.inl rfl) (.inl rfl)) (st2_cons (st_name sc.nd rfl (.inl rfl) (.inl rfl)) st2_nil rfl) rfl) rfl rfl rfl) st2_nil rfl) rfl) rfl rfl rfl) (ss_cons (ss_set sc.nd rfl (.inl rfl) (se_ite (st_cmp g_gt (se_var (i := 9) rfl (vis_of rfl) rfl rfl) se_int (nomark _)) (se_ix (se_var (i := 3) rfl (vis_of rfl) rfl rfl) (se_ix (se_ix (se_ix (se_var (i := 0) rfl (vis_of rfl) rfl rfl) se_int (fun _ _ => rfl)) (se_var (i := 4) rfl (vis_of rfl) rfl rfl) (fun _ _ => rfl)) se_int (fun _ _ => rfl)) (fun _ _ => rfl)) se_int) rfl (.inl rfl)) (ss_cons (ss_if (st_cmp g_lt (se_var (i := 9) rfl (vis_of rfl) rfl rfl) se_int (nomark _)) (ss_cons (ss_set sc.nd rfl (.inl rfl) (se_bin g_add (se_bin g_add (se_var (i := 5) rfl (vis_of rfl) rfl rfl) (se_lst (sa_cons (se_var (i := 9) rfl (vis_of rfl) rfl rfl) sa_nil rfl))) (se_var (i := 10) rfl (vis_of rfl) rfl rfl)) rfl (.inl rfl)) ss_nil) (ss_cons (ss_if (st_cmp (g_in hr.units) (se_var (i := 4) rfl (vis_of rfl) rfl rfl) (se_var (i := 1) rfl (vis_of rfl) rfl rfl) rfl) (ss_cons (ss_set sc.nd rfl (.inl rfl) (se_bin g_add (se_bin g_add (se_var (i := 5) rfl (vis_of rfl) rfl rfl) (se_lst (sa_cons (se_bin g_add (se_var (i := 9) rfl (vis_of rfl) rfl rfl) se_int) (sa_cons (se_bin g_mod (se_btyp c_int rfl h_int boot_int (sa_cons (se_var (i := 7) rfl (vis_of rfl) rfl rfl) sa_nil rfl) (by decide) (by decide) rfl rfl) se_int) (sa_cons (se_bin g_fdiv (se_btyp c_int rfl h_int boot_int (sa_cons (se_var (i := 7) rfl (vis_of rfl) rfl rfl) sa_nil rfl) (by decide) (by decide) rfl rfl) se_int) sa_nil rfl) rfl) rfl))) (se_var (i := 10) rfl (vis_of rfl) rfl rfl)) rfl (.inl rfl)) ss_nil) (ss_cons (ss_set sc.nd rfl (.inl rfl) (se_bin g_sub (se_bin g_add se_int (se_var (i := 7) rfl (vis_of rfl) rfl rfl)) (se_ix (se_var (i := 3) rfl (vis_of rfl) rfl rfl) (se_bin g_add (se_var (i := 4) rfl (vis_of rfl) rfl rfl) se_int) (fun _ _ => rfl))) rfl (.inl rfl)) (ss_cons (ss_set sc.nd rfl (.inl rfl) (se_bin g_add (se_var (i := 6) rfl (vis_of rfl) rfl rfl) (se_ite (SW.st (sw_or (st_cmp g_lt (se_var (i := 11) rfl (vis_of rfl) rfl rfl) se_int (nomark _)) (sw_or1 (st_cmp g_gt (se_var (i := 11) rfl (vis_of rfl) rfl rfl) se_int (nomark _))))) (se_lst (sa_cons (se_var (i := 4) rfl (vis_of rfl) rfl rfl) sa_nil rfl)) (se_lst sa_nil))) rfl (.inl rfl)) (ss_cons (ss_set sc.nd rfl (.inl rfl) (se_bin g_add (se_bin g_add (se_var (i := 5) rfl (vis_of rfl) rfl rfl) (se_lst (sa_cons (se_var (i := 9) rfl (vis_of rfl) rfl rfl) (sa_cons (se_var (i := 11) rfl (vis_of rfl) rfl rfl) sa_nil rfl) rfl))) (se_var (i := 10) rfl (vis_of rfl) rfl rfl)) rfl (.inl rfl)) ss_nil)))) ss_nil)) ss_nil)) (fun _ => rfl)) (ss_cons (ss_retT (sa_cons (se_var (i := 5) rfl (vis_of rfl) rfl rfl) (sa_cons (se_var (i := 3) rfl (vis_of rfl) rfl rfl) (sa_cons (se_var (i := 6) rfl (vis_of rfl) rfl rfl) sa_nil rfl) rfl) rfl) (by intro z; cases z)) ss_nil))))))
theorem sc_law_grown : FnScope ["line", "far", "turn", "bad"] ["line", "far"] (defScope s_law_grown) := ⟨rfl, rfl, rfl, by decide +kernel, rfl, by decide +kernel, by decide +kernel⟩
theorem d_law_grown (c : Fx K mg base) : DefX P w K mg base 14 "_law_grown" s_law_grown ["line", "far"] F_law_grown := by
  obtain ⟨f__law_packed, fd__law_packed, D__law_packed, m__law_packed, G__law_packed⟩ := d_law_packed c
  have h_len := c.free 0 rfl
  have h_range := c.free 5 rfl
  have h_sorted := c.free 6 rfl
  refine DefX.mk (k := 13) (N := ["line", "far", "turn", "bad"]) (c.def_ 38 rfl) sc_law_grown false rfl fun f cd A outer s H E hr hg => ?_
  have sc := sc_law_grown
  have tk := @takes_b P w K mg base "_law_grown" (defScope s_law_grown) f ["line", "far", "turn", "bad"] cd A outer s H E
  exact (ss_cons (ss_for passes_b rfl (si_range1 rfl h_range (se_bin g_add (se_bltn c_len rfl h_len boot_len (sa_cons (se_ix (se_var (i := 0) rfl (vis_of rfl) rfl rfl) se_int (fun _ _ => rfl)) sa_nil rfl) (by decide) (by decide) rfl rfl) se_int) rfl) (st_name sc.nd rfl (.inl rfl) (.inl rfl)) (ss_cons (ss_set sc.nd rfl (.inl rfl) (se_ix (se_call (ps := ["line", "far"]) ⟨G__law_packed, m__law_packed, D__law_packed.kp⟩ (hr.mono (by first | decide | omega)) hg tk (bd_plain D__law_packed fun _ _ _ _ _ _ us hl => match us, hl with | [_, _], _ => rfl) rfl (sa_cons (se_var (i := 0) rfl (vis_of rfl) rfl rfl) (sa_cons (se_var (i := 1) rfl (vis_of rfl) rfl rfl) sa_nil rfl) rfl) rfl rfl rfl) se_int (fun _ _ => rfl)) rfl (.inl rfl)) (ss_cons (ss_if (st_cmp (g_eq hr.units) (se_var (i := 3) rfl (vis_of rfl) rfl rfl) (se_lst sa_nil) (nomark _)) (ss_cons (ss_ret (se_var (i := 1) rfl (vis_of rfl) rfl rfl)) ss_nil) ss_nil) (ss_cons (ss_set sc.nd rfl (.inl rfl) (se_bltn c_sorted rfl h_sorted boot_sorted (sa_cons (se_bin g_add (se_var (i := 1) rfl (vis_of rfl) rfl rfl) (se_var (i := 3) rfl (vis_of rfl) rfl rfl)) sa_nil rfl) (by decide) (by decide) rfl rfl) rfl (.inl rfl)) ss_nil))) (fun _ => rfl)) (ss_cons (ss_ret (se_var (i := 1) rfl (vis_of rfl) rfl rfl)) ss_nil))
theorem sc_law_least : FnScope ["line"] ["line"] (defScope s_law_least) := ⟨rfl, rfl, rfl, by decide +kernel, rfl, by decide +kernel, by decide +kernel⟩
theorem d_law_least (c : Fx K mg base) : DefX P w K mg base 15 "_law_least" s_law_least ["line"] F_law_least := by
  obtain ⟨f__law_grown, fd__law_grown, D__law_grown, m__law_grown, G__law_grown⟩ := d_law_grown c
  refine DefX.mk (k := 14) (N := ["line"]) (c.def_ 39 rfl) sc_law_least false rfl fun f cd A outer s H E hr hg => ?_
  have sc := sc_law_least
  have tk := @takes_b P w K mg base "_law_least" (defScope s_law_least) f ["line"] cd A outer s H E
  exact (ss_cons (ss_ret (se_call (ps := ["line", "far"]) ⟨G__law_grown, m__law_grown, D__law_grown.kp⟩ (hr.mono (by first | decide | omega)) hg tk (bd_plain D__law_grown fun _ _ _ _ _ _ us hl => match us, hl with | [_, _], _ => rfl) rfl (sa_cons (se_var (i := 0) rfl (vis_of rfl) rfl rfl) (sa_cons (se_lst sa_nil) sa_nil rfl) rfl) rfl rfl rfl)) ss_nil)
theorem sc_law_draw : FnScope ["pot", "many", "digit"] ["pot", "many"] (defScope s_law_draw) := ⟨rfl, rfl, rfl, by decide +kernel, rfl, by decide +kernel, by decide +kernel⟩
theorem d_law_draw (c : Fx K mg base) : DefX P w K mg base 1 "_law_draw" s_law_draw ["pot", "many"] F_law_draw := by
  have h_divmod := c.free 7 rfl
  have h_int := c.free 3 rfl
  refine DefX.mk (k := 0) (N := ["pot", "many", "digit"]) (c.def_ 27 rfl) sc_law_draw false rfl fun f cd A outer s H E hr hg => ?_
  have sc := sc_law_draw
  have tk := @takes_b P w K mg base "_law_draw" (defScope s_law_draw) f ["pot", "many", "digit"] cd A outer s H E
  exact (ss_cons (ss_if (st_cmp g_gt (se_ix (se_var (i := 0) rfl (vis_of rfl) rfl rfl) se_int (fun _ _ => rfl)) se_int (nomark _)) (ss_cons (ss_asg (se_bltn c_divmod rfl h_divmod boot_divmod (sa_cons (se_ix (se_var (i := 0) rfl (vis_of rfl) rfl rfl) se_int (fun _ _ => rfl)) (sa_cons (se_var (i := 1) rfl (vis_of rfl) rfl rfl) sa_nil rfl) rfl) (by decide) (by decide) rfl rfl) (st_tup (n := 2) rfl (st2_cons (st_sub (W := bW E) (se_var (i := 0) rfl (vis_of rfl) rfl rfl) se_int (fun _ => rfl)) (st2_cons (st_name sc.nd rfl (.inl rfl) (.inl rfl)) st2_nil rfl) rfl) rfl rfl rfl) rfl rfl rfl) (ss_cons (ss_ret (se_var (i := 2) rfl (vis_of rfl) rfl rfl)) ss_nil)) ss_nil) (ss_cons (ss_asg (se_bin g_mod (se_btyp c_int rfl h_int boot_int (sa_cons (se_bin g_add (se_bin g_mul (se_ix (se_var (i := 0) rfl (vis_of rfl) rfl rfl) se_int (fun _ _ => rfl)) se_int) se_int) sa_nil rfl) (by decide) (by decide) rfl rfl) se_int) (st_sub (W := bW E) (se_var (i := 0) rfl (vis_of rfl) rfl rfl) se_int (fun _ => rfl)) rfl rfl rfl) (ss_cons (ss_ret (se_bin g_mod (se_btyp c_int rfl h_int boot_int (sa_cons (se_bin g_fdiv (se_bin g_mod (se_btyp c_int rfl h_int boot_int (sa_cons (se_bin g_mul (se_ix (se_var (i := 0) rfl (vis_of rfl) rfl rfl) se_int (fun _ _ => rfl)) (se_ix (se_var (i := 0) rfl (vis_of rfl) rfl rfl) se_int (fun _ _ => rfl))) sa_nil rfl) (by decide) (by decide) rfl rfl) se_int) se_int) sa_nil rfl) (by decide) (by decide) rfl rfl) (se_var (i := 1) rfl (vis_of rfl) rfl rfl))) ss_nil)))
theorem sc_law_pick : FnScope ["pot", "some"] ["pot", "some"] (defScope s_law_pick) := ⟨rfl, rfl, rfl, by decide +kernel, rfl, by decide +kernel, by decide +kernel⟩
theorem d_law_pick (c : Fx K mg base) : DefX P w K mg base 2 "_law_pick" s_law_pick ["pot", "some"] F_law_pick := by
  obtain ⟨f__law_draw, fd__law_draw, D__law_draw, m__law_draw, G__law_draw⟩ := d_law_draw c
  have h_len := c.free 0 rfl
  refine DefX.mk (k := 1) (N := ["pot", "some"]) (c.def_ 28 rfl) sc_law_pick false rfl fun f cd A outer s H E hr hg => ?_
  have sc := sc_law_pick
  have tk := @takes_b P w K mg base "_law_pick" (defScope s_law_pick) f ["pot", "some"] cd A outer s H E
  exact (ss_cons (ss_ret (se_ix (se_var (i := 1) rfl (vis_of rfl) rfl rfl) (se_call (ps := ["pot", "many"]) ⟨G__law_draw, m__law_draw, D__law_draw.kp⟩ (hr.mono (by first | decide | omega)) hg tk (bd_plain D__law_draw fun _ _ _ _ _ _ us hl => match us, hl with | [_, _], _ => rfl) rfl (sa_cons (se_var (i := 0) rfl (vis_of rfl) rfl rfl) (sa_cons (se_bltn c_len rfl h_len boot_len (sa_cons (se_var (i := 1) rfl (vis_of rfl) rfl rfl) sa_nil rfl) (by decide) (by decide) rfl rfl) sa_nil rfl) rfl) rfl rfl rfl) (fun _ _ => rfl))) ss_nil)
theorem sc_law_number : FnScope ["pot"] ["pot"] (defScope s_law_number) := ⟨rfl, rfl, rfl, by decide +kernel, rfl, by decide +kernel, by decide +kernel⟩
theorem d_law_number (c : Fx K mg base) : DefX P w K mg base 3 "_law_number" s_law_number ["pot"] F_law_number := by
  obtain ⟨f__law_pick, fd__law_pick, D__law_pick, m__law_pick, G__law_pick⟩ := d_law_pick c
  obtain ⟨f__law_draw, fd__law_draw, D__law_draw, m__law_draw, G__law_draw⟩ := d_law_draw c
  refine DefX.mk (k := 2) (N := ["pot"]) (c.def_ 29 rfl) sc_law_number false rfl fun f cd A outer s H E hr hg => ?_
  have sc := sc_law_number
  have tk := @takes_b P w K mg base "_law_number" (defScope s_law_number) f ["pot"] cd A outer s H E
  exact (ss_cons (ss_ret (se_call (ps := ["pot", "some"]) ⟨G__law_pick, m__law_pick, D__law_pick.kp⟩ (hr.mono (by first | decide | omega)) hg tk (bd_plain D__law_pick fun _ _ _ _ _ _ us hl => match us, hl with | [_, _], _ => rfl) rfl (sa_cons (se_var (i := 0) rfl (vis_of rfl) rfl rfl) (sa_cons (se_lst (sa_cons se_int (sa_cons se_int (sa_cons (se_neg se_int) (sa_cons se_int (sa_cons se_int (sa_cons se_int (sa_cons se_int (sa_cons (se_neg se_int) (sa_cons (se_neg se_int) (sa_cons se_int (sa_cons se_int (sa_cons (se_neg se_int) (sa_cons (se_bin g_pow se_int se_int) (sa_cons (se_neg (se_bin g_pow se_int se_int)) (sa_cons (se_bin g_sub (se_call (ps := ["pot", "many"]) ⟨G__law_draw, m__law_draw, D__law_draw.kp⟩ (hr.mono (by first | decide | omega)) hg tk (bd_plain D__law_draw fun _ _ _ _ _ _ us hl => match us, hl with | [_, _], _ => rfl) rfl (sa_cons (se_var (i := 0) rfl (vis_of rfl) rfl rfl) (sa_cons se_int sa_nil rfl) rfl) rfl rfl rfl) se_int) sa_nil rfl) rfl) rfl) rfl) rfl) rfl) rfl) rfl) rfl) rfl) rfl) rfl) rfl) rfl) rfl)) sa_nil rfl) rfl) rfl rfl rfl)) ss_nil)
theorem sc_law_sum : FnScope ["pot", "many", "terms", "slot", "times"] ["pot", "many"] (defScope s_law_sum) := ⟨rfl, rfl, rfl, by decide +kernel, rfl, by decide +kernel, by decide +kernel⟩
theorem d_law_sum (c : Fx K mg base) : DefX P w K mg base 4 "_law_sum" s_law_sum ["pot", "many"] F_law_sum := by
  obtain ⟨f__law_draw, fd__law_draw, D__law_draw, m__law_draw, G__law_draw⟩ := d_law_draw c
  obtain ⟨f__law_number, fd__law_number, D__law_number, m__law_number, G__law_number⟩ := d_law_number c
  have h_range := c.free 5 rfl
  have h_tuple := c.free 8 rfl
  refine DefX.mk (k := 3) (N := ["pot", "many", "terms", "slot", "times"]) (c.def_ 30 rfl) sc_law_sum false rfl fun f cd A outer s H E hr hg => ?_
  have sc := sc_law_sum
  have tk := @takes_b P w K mg base "_law_sum" (defScope s_law_sum) f ["pot", "many", "terms", "slot", "times"] cd A outer s H E
  exact (ss_cons (ss_set sc.nd rfl (.inl rfl) (se_cel sa_nil) rfl (.inl rfl)) (ss_cons (ss_for passes_b rfl (si_range1 rfl h_range (se_var (i := 1) rfl (vis_of rfl) rfl rfl) rfl) (st_name sc.nd rfl (.inl rfl) (.inl rfl)) (ss_cons (ss_set sc.nd rfl (.inl rfl) (se_ite (st_cmp (g_eq hr.units) (se_call (ps := ["pot", "many"]) ⟨G__law_draw, m__law_draw, D__law_draw.kp⟩ (hr.mono (by first | decide | omega)) hg tk (bd_plain D__law_draw fun _ _ _ _ _ _ us hl => match us, hl with | [_, _], _ => rfl) rfl (sa_cons (se_var (i := 0) rfl (vis_of rfl) rfl rfl) (sa_cons se_int sa_nil rfl) rfl) rfl rfl rfl) se_int (nomark _)) (se_call (ps := ["pot"]) ⟨G__law_number, m__law_number, D__law_number.kp⟩ (hr.mono (by first | decide | omega)) hg tk (bd_plain D__law_number fun _ _ _ _ _ _ us hl => match us, hl with | [_], _ => rfl) rfl (sa_cons (se_var (i := 0) rfl (vis_of rfl) rfl rfl) sa_nil rfl) rfl rfl rfl) se_int) rfl (.inl rfl)) (ss_cons (ss_if (st_cmp (g_ne hr.units) (se_var (i := 4) rfl (vis_of rfl) rfl rfl) se_int (nomark _)) (ss_cons (ss_expr (se_mt F.slot_list_append F.type_list_append m_app (se_var (i := 2) rfl (vis_of rfl) rfl rfl) (sa_cons (se_tup (sa_cons (se_var (i := 3) rfl (vis_of rfl) rfl rfl) (sa_cons (se_var (i := 4) rfl (vis_of rfl) rfl rfl) sa_nil rfl) rfl)) sa_nil rfl) rfl rfl rfl rfl rfl) rfl) ss_nil) ss_nil) ss_nil)) (fun _ => rfl)) (ss_cons (ss_ret (se_tup (sa_cons (se_call (ps := ["pot"]) ⟨G__law_number, m__law_number, D__law_number.kp⟩ (hr.mono (by first | decide | omega)) hg tk (bd_plain D__law_number fun _ _ _ _ _ _ us hl => match us, hl with | [_], _ => rfl) rfl (sa_cons (se_var (i := 0) rfl (vis_of rfl) rfl rfl) sa_nil rfl) rfl rfl rfl) (sa_cons (se_btyp c_tuple rfl h_tuple boot_tuple (sa_cons (se_var (i := 2) rfl (vis_of rfl) rfl rfl) sa_nil rfl) (by decide) (by decide) rfl rfl) sa_nil rfl) rfl))) ss_nil)))
theorem sc_law_instruction : FnScope ["pot", "many", "size", "is_last", "words", "word", "turn"] ["pot", "many", "size", "is_last"] (defScope s_law_instruction) := ⟨rfl, rfl, rfl, by decide +kernel, rfl, by decide +kernel, by decide +kernel⟩
theorem d_law_instruction (c : Fx K mg base) : DefX P w K mg base 5 "_law_instruction" s_law_instruction ["pot", "many", "size", "is_last"] F_law_instruction := by
  obtain ⟨f__law_pick, fd__law_pick, D__law_pick, m__law_pick, G__law_pick⟩ := d_law_pick c
  obtain ⟨f__law_draw, fd__law_draw, D__law_draw, m__law_draw, G__law_draw⟩ := d_law_draw c
  obtain ⟨f__law_sum, fd__law_sum, D__law_sum, m__law_sum, G__law_sum⟩ := d_law_sum c
  have h_min := c.free 9 rfl
  have h_range := c.free 5 rfl
  have h_tuple := c.free 8 rfl
  refine DefX.mk (k := 4) (N := ["pot", "many", "size", "is_last", "words", "word", "turn"]) (c.def_ 31 rfl) sc_law_instruction false rfl fun f cd A outer s H E hr hg => ?_
  have sc := sc_law_instruction
  have tk := @takes_b P w K mg base "_law_instruction" (defScope s_law_instruction) f ["pot", "many", "size", "is_last", "words", "word", "turn"] cd A outer s H E
  exact (ss_cons (ss_set sc.nd rfl (.inl rfl) (se_lst (sa_cons se_str (sa_cons se_str (sa_cons se_str (sa_cons se_str (sa_cons se_str sa_nil rfl) rfl) rfl) rfl) rfl)) rfl (.inl rfl)) (ss_cons (ss_if (st_not (st_truth (se_var (i := 3) rfl (vis_of rfl) rfl rfl) (fun _ => rfl))) (ss_cons (ss_set sc.nd rfl (.inl rfl) (se_bin g_add (se_bin g_add (se_var (i := 4) rfl (vis_of rfl) rfl rfl) (se_lst (sa_cons se_str (sa_cons se_str (sa_cons se_str (sa_cons se_str (sa_cons se_str (sa_cons se_str (sa_cons se_str (sa_cons se_str sa_nil rfl) rfl) rfl) rfl) rfl) rfl) rfl) rfl))) (se_ite (st_cmp g_gt (se_var (i := 1) rfl (vis_of rfl) rfl rfl) se_int (nomark _)) (se_lst (sa_cons se_str (sa_cons se_str sa_nil rfl) rfl)) (se_lst sa_nil))) rfl (.inl rfl)) ss_nil) ss_nil) (ss_cons (ss_set sc.nd rfl (.inl rfl) (se_call (ps := ["pot", "some"]) ⟨G__law_pick, m__law_pick, D__law_pick.kp⟩ (hr.mono (by first | decide | omega)) hg tk (bd_plain D__law_pick fun _ _ _ _ _ _ us hl => match us, hl with | [_, _], _ => rfl) rfl (sa_cons (se_var (i := 0) rfl (vis_of rfl) rfl rfl) (sa_cons (se_var (i := 4) rfl (vis_of rfl) rfl rfl) sa_nil rfl) rfl) rfl rfl rfl) rfl (.inl rfl)) (ss_cons (ss_if (st_cmp (g_in hr.units) (se_var (i := 5) rfl (vis_of rfl) rfl rfl) (se_tup (sa_cons se_str (sa_cons se_str sa_nil rfl) rfl)) rfl) (ss_cons (ss_ret (se_tup (sa_cons (se_var (i := 5) rfl (vis_of rfl) rfl rfl) sa_nil rfl))) ss_nil) ss_nil) (ss_cons (ss_if (st_cmp (g_eq hr.units) (se_var (i := 5) rfl (vis_of rfl) rfl rfl) se_str (nomark _)) (ss_cons (ss_ret (se_tup (sa_cons (se_var (i := 5) rfl (vis_of rfl) rfl rfl) (sa_cons (se_call (ps := ["pot", "some"]) ⟨G__law_pick, m__law_pick, D__law_pick.kp⟩ (hr.mono (by first | decide | omega)) hg tk (bd_plain D__law_pick fun _ _ _ _ _ _ us hl => match us, hl with | [_, _], _ => rfl) rfl (sa_cons (se_var (i := 0) rfl (vis_of rfl) rfl rfl) (sa_cons (se_lst (sa_cons se_int (sa_cons se_int (sa_cons se_int (sa_cons se_int (sa_cons se_int (sa_cons (se_call (ps := ["pot", "many"]) ⟨G__law_draw, m__law_draw, D__law_draw.kp⟩ (hr.mono (by first | decide | omega)) hg tk (bd_plain D__law_draw fun _ _ _ _ _ _ us hl => match us, hl with | [_, _], _ => rfl) rfl (sa_cons (se_var (i := 0) rfl (vis_of rfl) rfl rfl) (sa_cons se_int sa_nil rfl) rfl) rfl rfl rfl) sa_nil rfl) rfl) rfl) rfl) rfl) rfl)) sa_nil rfl) rfl) rfl rfl rfl) sa_nil rfl) rfl))) ss_nil) ss_nil) (ss_cons (ss_if (st_cmp (g_eq hr.units) (se_var (i := 5) rfl (vis_of rfl) rfl rfl) se_str (nomark _)) (ss_cons (ss_ret (se_tup (sa_cons (se_var (i := 5) rfl (vis_of rfl) rfl rfl) (sa_cons (se_ite (SW.st (sw_or (st_cmp (g_eq hr.units) (se_var (i := 1) rfl (vis_of rfl) rfl rfl) se_int (nomark _)) (sw_or1 (st_cmp (g_eq hr.units) (se_call (ps := ["pot", "many"]) ⟨G__law_draw, m__law_draw, D__law_draw.kp⟩ (hr.mono (by first | decide | omega)) hg tk (bd_plain D__law_draw fun _ _ _ _ _ _ us hl => match us, hl with | [_, _], _ => rfl) rfl (sa_cons (se_var (i := 0) rfl (vis_of rfl) rfl rfl) (sa_cons se_int sa_nil rfl) rfl) rfl rfl rfl) se_int (nomark _))))) se_non (se_call (ps := ["pot", "many"]) ⟨G__law_draw, m__law_draw, D__law_draw.kp⟩ (hr.mono (by first | decide | omega)) hg tk (bd_plain D__law_draw fun _ _ _ _ _ _ us hl => match us, hl with | [_, _], _ => rfl) rfl (sa_cons (se_var (i := 0) rfl (vis_of rfl) rfl rfl) (sa_cons (se_var (i := 1) rfl (vis_of rfl) rfl rfl) sa_nil rfl) rfl) rfl rfl rfl)) sa_nil rfl) rfl))) ss_nil) ss_nil) (ss_cons (ss_if (st_cmp (g_eq hr.units) (se_var (i := 5) rfl (vis_of rfl) rfl rfl) se_str (nomark _)) (ss_cons (ss_ret (se_tup (sa_cons (se_var (i := 5) rfl (vis_of rfl) rfl rfl) (sa_cons (se_call (ps := ["pot", "many"]) ⟨G__law_draw, m__law_draw, D__law_draw.kp⟩ (hr.mono (by first | decide | omega)) hg tk (bd_plain D__law_draw fun _ _ _ _ _ _ us hl => match us, hl with | [_, _], _ => rfl) rfl (sa_cons (se_var (i := 0) rfl (vis_of rfl) rfl rfl) (sa_cons (se_var (i := 1) rfl (vis_of rfl) rfl rfl) sa_nil rfl) rfl) rfl rfl rfl) (sa_cons (se_call (ps := ["pot", "many"]) ⟨G__law_sum, m__law_sum, D__law_sum.kp⟩ (hr.mono (by first | decide | omega)) hg tk (bd_plain D__law_sum fun _ _ _ _ _ _ us hl => match us, hl with | [_, _], _ => rfl) rfl (sa_cons (se_var (i := 0) rfl (vis_of rfl) rfl rfl) (sa_cons (se_var (i := 1) rfl (vis_of rfl) rfl rfl) sa_nil rfl) rfl) rfl rfl rfl) sa_nil rfl) rfl) rfl))) ss_nil) ss_nil) (ss_cons (ss_if (st_cmp (g_eq hr.units) (se_var (i := 5) rfl (vis_of rfl) rfl rfl) se_str (nomark _)) (ss_cons (ss_ret (se_tup (sa_cons (se_var (i := 5) rfl (vis_of rfl) rfl rfl) (sa_cons (se_call (ps := ["pot", "many"]) ⟨G__law_sum, m__law_sum, D__law_sum.kp⟩ (hr.mono (by first | decide | omega)) hg tk (bd_plain D__law_sum fun _ _ _ _ _ _ us hl => match us, hl with | [_, _], _ => rfl) rfl (sa_cons (se_var (i := 0) rfl (vis_of rfl) rfl rfl) (sa_cons (se_var (i := 1) rfl (vis_of rfl) rfl rfl) sa_nil rfl) rfl) rfl rfl rfl) sa_nil rfl) rfl))) ss_nil) ss_nil) (ss_cons (ss_if (st_cmp (g_in hr.units) (se_var (i := 5) rfl (vis_of rfl) rfl rfl) (se_tup (sa_cons se_str (sa_cons se_str sa_nil rfl) rfl)) rfl) (ss_cons (ss_ret (se_tup (sa_cons (se_var (i := 5) rfl (vis_of rfl) rfl rfl) (sa_cons (se_call (ps := ["pot", "many"]) ⟨G__law_draw, m__law_draw, D__law_draw.kp⟩ (hr.mono (by first | decide | omega)) hg tk (bd_plain D__law_draw fun _ _ _ _ _ _ us hl => match us, hl with | [_, _], _ => rfl) rfl (sa_cons (se_var (i := 0) rfl (vis_of rfl) rfl rfl) (sa_cons (se_var (i := 2) rfl (vis_of rfl) rfl rfl) sa_nil rfl) rfl) rfl rfl rfl) (sa_cons (se_btyp c_tuple rfl h_tuple boot_tuple (sa_cons (se_lc (own := [(("turn" : Str), 6)]) rfl sc.nd (by exact (si_range1 rfl h_range (se_call (ps := ["pot", "many"]) ⟨G__law_draw, m__law_draw, D__law_draw.kp⟩ (hr.mono (by first | decide | omega)) hg tk (bd_plain D__law_draw fun _ _ _ _ _ _ us hl => match us, hl with | [_, _], _ => rfl) rfl (sa_cons (se_var (i := 0) rfl (vis_of rfl) rfl rfl) (sa_cons (se_bin g_add (se_bltn (c_min rfl) rfl h_min boot_min (sa_cons se_int (sa_cons (se_var (i := 1) rfl (vis_of rfl) rfl rfl) sa_nil rfl) rfl) (by decide) (by decide) rfl rfl) se_int) sa_nil rfl) rfl) rfl rfl rfl) rfl)) (blkOk_by (N := ["pot", "many", "size", "is_last", "words", "word", "turn"]) (sc := defScope s_law_instruction) (by decide +kernel)) (fun _ _ _ _ _ => (sv_name sc.nd rfl (.inl rfl) (.inr rfl) (by decide))) (fun _ _ _ _ _ => sts_nil) (fun _ _ _ _ _ => (by exact (se_call (ps := ["pot", "many"]) ⟨G__law_sum, m__law_sum, D__law_sum.kp⟩ (hr.mono (by first | decide | omega)) hg takes0 (bd_plain D__law_sum fun _ _ _ _ _ _ us hl => match us, hl with | [_, _], _ => rfl) rfl (sa_cons (se_var (i := 0) rfl (vis_of rfl) rfl rfl) (sa_cons (se_var (i := 1) rfl (vis_of rfl) rfl rfl) sa_nil rfl) rfl) rfl rfl rfl))) (fun _ => rfl)) sa_nil rfl) (by decide) (by decide) rfl rfl) sa_nil rfl) rfl) rfl))) ss_nil) ss_nil) (ss_cons (ss_ret (se_tup (sa_cons (se_var (i := 5) rfl (vis_of rfl) rfl rfl) (sa_cons (se_call (ps := ["pot", "many"]) ⟨G__law_draw, m__law_draw, D__law_draw.kp⟩ (hr.mono (by first | decide | omega)) hg tk (bd_plain D__law_draw fun _ _ _ _ _ _ us hl => match us, hl with | [_, _], _ => rfl) rfl (sa_cons (se_var (i := 0) rfl (vis_of rfl) rfl rfl) (sa_cons (se_var (i := 2) rfl (vis_of rfl) rfl rfl) sa_nil rfl) rfl) rfl rfl rfl) sa_nil rfl) rfl))) ss_nil))))))))))
theorem sc_law_line : FnScope ["pot", "most", "many", "size", "at"] ["pot", "most"] (defScope s_law_line) := ⟨rfl, rfl, rfl, by decide +kernel, rfl, by decide +kernel, by decide +kernel⟩
theorem d_law_line (c : Fx K mg base) : DefX P w K mg base 6 "_law_line" s_law_line ["pot", "most"] F_law_line := by
  obtain ⟨f__law_pick, fd__law_pick, D__law_pick, m__law_pick, G__law_pick⟩ := d_law_pick c
  obtain ⟨f__law_draw, fd__law_draw, D__law_draw, m__law_draw, G__law_draw⟩ := d_law_draw c
  obtain ⟨f__law_instruction, fd__law_instruction, D__law_instruction, m__law_instruction, G__law_instruction⟩ := d_law_instruction c
  have h_range := c.free 5 rfl
  have h_tuple := c.free 8 rfl
  refine DefX.mk (k := 5) (N := ["pot", "most", "many", "size", "at"]) (c.def_ 32 rfl) sc_law_line false rfl fun f cd A outer s H E hr hg => ?_
  have sc := sc_law_line
  have tk := @takes_b P w K mg base "_law_line" (defScope s_law_line) f ["pot", "most", "many", "size", "at"] cd A outer s H E
  exact (ss_cons (ss_asg (se_tup (sa_cons (se_call (ps := ["pot", "some"]) ⟨G__law_pick, m__law_pick, D__law_pick.kp⟩ (hr.mono (by first | decide | omega)) hg tk (bd_plain D__law_pick fun _ _ _ _ _ _ us hl => match us, hl with | [_, _], _ => rfl) rfl (sa_cons (se_var (i := 0) rfl (vis_of rfl) rfl rfl) (sa_cons (se_lst (sa_cons se_int (sa_cons se_int (sa_cons se_int (sa_cons se_int (sa_cons se_int sa_nil rfl) rfl) rfl) rfl) rfl)) sa_nil rfl) rfl) rfl rfl rfl) (sa_cons (se_bin g_add se_int (se_call (ps := ["pot", "many"]) ⟨G__law_draw, m__law_draw, D__law_draw.kp⟩ (hr.mono (by first | decide | omega)) hg tk (bd_plain D__law_draw fun _ _ _ _ _ _ us hl => match us, hl with | [_, _], _ => rfl) rfl (sa_cons (se_var (i := 0) rfl (vis_of rfl) rfl rfl) (sa_cons (se_var (i := 1) rfl (vis_of rfl) rfl rfl) sa_nil rfl) rfl) rfl rfl rfl)) sa_nil rfl) rfl)) (st_tup (n := 2) rfl (st2_cons (st_name sc.nd rfl (.inr rfl) (.inl rfl)) (st2_cons (st_name sc.nd rfl (.inr rfl) (.inl rfl)) st2_nil rfl) rfl) rfl rfl rfl) rfl rfl rfl) (ss_cons (ss_ret (se_tup (sa_cons se_str (sa_cons (se_var (i := 2) rfl (vis_of rfl) rfl rfl) (sa_cons (se_btyp c_tuple rfl h_tuple boot_tuple (sa_cons (se_lc (own := [(("at" : Str), 4)]) rfl sc.nd (by exact (si_range1 rfl h_range (se_var (i := 3) rfl (vis_of rfl) rfl rfl) rfl)) (blkOk_by (N := ["pot", "most", "many", "size", "at"]) (sc := defScope s_law_line) (by decide +kernel)) (fun _ _ _ _ _ => (sv_name sc.nd rfl (.inl rfl) (.inr rfl) (by decide))) (fun _ _ _ _ _ => sts_nil) (fun _ _ _ _ _ => (by exact (se_call (ps := ["pot", "many", "size", "is_last"]) ⟨G__law_instruction, m__law_instruction, D__law_instruction.kp⟩ (hr.mono (by first | decide | omega)) hg takes0 (bd_plain D__law_instruction fun _ _ _ _ _ _ us hl => match us, hl with | [_, _, _, _], _ => rfl) rfl (sa_cons (se_var (i := 0) rfl (vis_of rfl) rfl rfl) (sa_cons (se_var (i := 2) rfl (vis_of rfl) rfl rfl) (sa_cons (se_var (i := 3) rfl (vis_of rfl) rfl rfl) (sa_cons (se_cmp (by exact (g_eq hr.units)) (se_var (i := 4) rfl (vis_of rfl) rfl rfl) (se_bin g_sub (se_var (i := 3) rfl (vis_of rfl) rfl rfl) se_int) (nomark _)) sa_nil rfl) rfl) rfl) rfl) rfl rfl rfl))) (fun _ => rfl)) sa_nil rfl) (by decide) (by decide) rfl rfl) sa_nil rfl) rfl) rfl))) ss_nil))
theorem sc_law_same : FnScope ["told", "due", "one", "other"] ["told", "due"] (defScope s_law_same) := ⟨rfl, rfl, rfl, by decide +kernel, rfl, by decide +kernel, by decide +kernel⟩
theorem d_law_same (c : Fx K mg base) : ∀ n : Nat, DefX P w K mg base (1 + n) "_law_same" s_law_same ["told", "due"] (F_law_same n)
  | 0 => DefX.zero (c.def_ 40 rfl)
  | n + 1 => by
    have h_isinstance := c.free 10 rfl
    have h_bool := c.free 11 rfl
    have h_str := c.free 12 rfl
    have h_int := c.free 3 rfl
    have h_tuple := c.free 8 rfl
    have h_len := c.free 0 rfl
    have h_zip := c.free 13 rfl
    have h_all := c.free 14 rfl
    have h_list := c.free 15 rfl
    obtain ⟨f__law_same, fd__law_same, D__law_same, m__law_same, G__law_same⟩ := d_law_same c n
    refine DefX.mk (k := 1 + n) (N := ["told", "due", "one", "other"]) (c.def_ 40 rfl) sc_law_same false rfl fun f cd A outer s H E hr hg => ?_
    have sc := sc_law_same
    have tk := @takes_b P w K mg base "_law_same" (defScope s_law_same) f ["told", "due", "one", "other"] cd A outer s H E
    exact (ss_cons (ss_if (st_cmp g_is (se_var (i := 1) rfl (vis_of rfl) rfl rfl) se_non (nomark _)) (ss_cons (ss_ret (se_cmp g_is (se_var (i := 0) rfl (vis_of rfl) rfl rfl) se_non (nomark _))) ss_nil) ss_nil) (ss_cons (ss_if (st_truth (se_isi (T := .bool) (se_var (i := 1) rfl (vis_of rfl) rfl rfl) rfl h_isinstance rfl h_bool rfl) (fun _ => rfl)) (ss_cons (ss_ret (se_and (se_isi (T := .bool) (se_var (i := 0) rfl (vis_of rfl) rfl rfl) rfl h_isinstance rfl h_bool rfl) (se_one (se_cmp (g_eq hr.units) (se_var (i := 0) rfl (vis_of rfl) rfl rfl) (se_var (i := 1) rfl (vis_of rfl) rfl rfl) (nomark _))))) ss_nil) ss_nil) (ss_cons (ss_if (st_truth (se_isi (T := .str) (se_var (i := 1) rfl (vis_of rfl) rfl rfl) rfl h_isinstance rfl h_str rfl) (fun _ => rfl)) (ss_cons (ss_ret (se_and (se_isi (T := .str) (se_var (i := 0) rfl (vis_of rfl) rfl rfl) rfl h_isinstance rfl h_str rfl) (se_one (se_cmp (g_eq hr.units) (se_var (i := 0) rfl (vis_of rfl) rfl rfl) (se_var (i := 1) rfl (vis_of rfl) rfl rfl) (nomark _))))) ss_nil) ss_nil) (ss_cons (ss_if (st_truth (se_isi (T := .int) (se_var (i := 1) rfl (vis_of rfl) rfl rfl) rfl h_isinstance rfl h_int rfl) (fun _ => rfl)) (ss_cons (ss_ret (se_and (se_isi (T := .int) (se_var (i := 0) rfl (vis_of rfl) rfl rfl) rfl h_isinstance rfl h_int rfl) (se_and (se_not (se_isi (T := .bool) (se_var (i := 0) rfl (vis_of rfl) rfl rfl) rfl h_isinstance rfl h_bool rfl)) (se_one (se_cmp (g_eq hr.units) (se_var (i := 0) rfl (vis_of rfl) rfl rfl) (se_var (i := 1) rfl (vis_of rfl) rfl rfl) (nomark _)))))) ss_nil) ss_nil) (ss_cons (ss_if (st_truth (se_isi (T := .tuple) (se_var (i := 1) rfl (vis_of rfl) rfl rfl) rfl h_isinstance rfl h_tuple rfl) (fun _ => rfl)) (ss_cons (ss_if (SW.st (sw_or (st_not (st_truth (se_isi (T := .tuple) (se_var (i := 0) rfl (vis_of rfl) rfl rfl) rfl h_isinstance rfl h_tuple rfl) (fun _ => rfl))) (sw_or1 (st_cmp (g_ne hr.units) (se_bltn c_len rfl h_len boot_len (sa_cons (se_var (i := 0) rfl (vis_of rfl) rfl rfl) sa_nil rfl) (by decide) (by decide) rfl rfl) (se_bltn c_len rfl h_len boot_len (sa_cons (se_var (i := 1) rfl (vis_of rfl) rfl rfl) sa_nil rfl) (by decide) (by decide) rfl rfl) (nomark _))))) (ss_cons (ss_ret se_bl) ss_nil) ss_nil) (ss_cons (ss_ret (se_bltn (c_all rfl) rfl h_all boot_all (sa_cons (se_lc (own := [(("one" : Str), 2), (("other" : Str), 3)]) rfl sc.nd (by exact (si_zip rfl h_zip (sa_cons (se_var (i := 0) rfl (vis_of rfl) rfl rfl) (sa_cons (se_var (i := 1) rfl (vis_of rfl) rfl rfl) sa_nil rfl) rfl) rfl rfl)) (blkOk_by (N := ["told", "due", "one", "other"]) (sc := defScope s_law_same) (by decide +kernel)) (fun _ _ _ _ _ => (sv_tup (n := 2) rfl (svs_cons (sv_name sc.nd rfl (.inl rfl) (.inr rfl) (by decide)) (svs_cons (sv_name sc.nd rfl (.inl rfl) (.inr rfl) (by decide)) svs_nil rfl) rfl) rfl rfl rfl)) (fun _ _ _ _ _ => sts_nil) (fun _ _ _ _ _ => (by exact (se_call (ps := ["told", "due"]) ⟨G__law_same, m__law_same, D__law_same.kp⟩ (hr.mono (by first | decide | omega)) hg takes0 (bd_plain D__law_same fun _ _ _ _ _ _ us hl => match us, hl with | [_, _], _ => rfl) rfl (sa_cons (se_var (i := 2) rfl (vis_of rfl) rfl rfl) (sa_cons (se_var (i := 3) rfl (vis_of rfl) rfl rfl) sa_nil rfl) rfl) rfl rfl rfl))) (fun _ => rfl)) sa_nil rfl) (by decide) (by decide) rfl rfl)) ss_nil)) ss_nil) (ss_cons (ss_if (SW.st (sw_or (st_not (st_truth (se_isi (T := .list) (se_var (i := 0) rfl (vis_of rfl) rfl rfl) rfl h_isinstance rfl h_list rfl) (fun _ => rfl))) (sw_or1 (st_cmp (g_ne hr.units) (se_bltn c_len rfl h_len boot_len (sa_cons (se_var (i := 0) rfl (vis_of rfl) rfl rfl) sa_nil rfl) (by decide) (by decide) rfl rfl) (se_bltn c_len rfl h_len boot_len (sa_cons (se_var (i := 1) rfl (vis_of rfl) rfl rfl) sa_nil rfl) (by decide) (by decide) rfl rfl) (nomark _))))) (ss_cons (ss_ret se_bl) ss_nil) ss_nil) (ss_cons (ss_ret (se_bltn (c_all rfl) rfl h_all boot_all (sa_cons (se_lc (own := [(("one" : Str), 2), (("other" : Str), 3)]) rfl sc.nd (by exact (si_zip rfl h_zip (sa_cons (se_var (i := 0) rfl (vis_of rfl) rfl rfl) (sa_cons (se_var (i := 1) rfl (vis_of rfl) rfl rfl) sa_nil rfl) rfl) rfl rfl)) (blkOk_by (N := ["told", "due", "one", "other"]) (sc := defScope s_law_same) (by decide +kernel)) (fun _ _ _ _ _ => (sv_tup (n := 2) rfl (svs_cons (sv_name sc.nd rfl (.inl rfl) (.inr rfl) (by decide)) (svs_cons (sv_name sc.nd rfl (.inl rfl) (.inr rfl) (by decide)) svs_nil rfl) rfl) rfl rfl rfl)) (fun _ _ _ _ _ => sts_nil) (fun _ _ _ _ _ => (by exact (se_call (ps := ["told", "due"]) ⟨G__law_same, m__law_same, D__law_same.kp⟩ (hr.mono (by first | decide | omega)) hg takes0 (bd_plain D__law_same fun _ _ _ _ _ _ us hl => match us, hl with | [_, _], _ => rfl) rfl (sa_cons (se_var (i := 2) rfl (vis_of rfl) rfl rfl) (sa_cons (se_var (i := 3) rfl (vis_of rfl) rfl rfl) sa_nil rfl) rfl) rfl rfl rfl))) (fun _ => rfl)) sa_nil rfl) (by decide) (by decide) rfl rfl)) ss_nil)))))))
theorem sc_places_by : FnScope ["sizes", "found", "size"] ["sizes"] (defScope s_places_by) := ⟨rfl, rfl, rfl, by decide +kernel, rfl, by decide +kernel, by decide +kernel⟩
theorem d_places_by (c : Fx K mg base) : DefX P w K mg base 1 "places_by" s_places_by ["sizes"] F_places_by := by
  obtain ⟨_, _, gm_FIRST, gr_FIRST, gk_FIRST⟩ := c.con 9 rfl
  refine DefX.mk (k := 0) (N := ["sizes", "found", "size"]) (c.def_ 18 rfl) sc_places_by false rfl fun f cd A outer s H E hr hg => ?_
  have sc := sc_places_by
  have tk := @takes_b P w K mg base "places_by" (defScope s_places_by) f ["sizes", "found", "size"] cd A outer s H E
  exact (ss_cons (ss_set sc.nd rfl (.inl rfl) (se_cel (sa_cons (se_glob rfl gm_FIRST gr_FIRST rfl gk_FIRST) sa_nil rfl)) rfl (.inl rfl)) (ss_cons (ss_for passes_b rfl (si_seq (se_var (i := 0) rfl (vis_of rfl) rfl rfl)) (st_name sc.nd rfl (.inl rfl) (.inl rfl)) (ss_cons (ss_expr (se_mt F.slot_list_append F.type_list_append m_app (se_var (i := 1) rfl (vis_of rfl) rfl rfl) (sa_cons (se_bin g_add (se_ix (se_var (i := 1) rfl (vis_of rfl) rfl rfl) (se_neg se_int) (fun _ _ => rfl)) (se_var (i := 2) rfl (vis_of rfl) rfl rfl)) sa_nil rfl) rfl rfl rfl rfl rfl) rfl) ss_nil) (fun _ => rfl)) (ss_cons (ss_ret (se_var (i := 1) rfl (vis_of rfl) rfl rfl)) ss_nil)))
theorem sc_count_bytes : FnScope ["number", "found"] ["number"] (defScope s_count_bytes) := ⟨rfl, rfl, rfl, by decide +kernel, rfl, by decide +kernel, by decide +kernel⟩
theorem d_count_bytes (c : Fx K mg base) : DefX P w K mg base 1 "count_bytes" s_count_bytes ["number"] F_count_bytes := by
  refine DefX.mk (k := 0) (N := ["number", "found"]) (c.def_ 11 rfl) sc_count_bytes true rfl fun f cd A outer s H E hr hg => ?_
  have sc := sc_count_bytes
  have tk := @takes_b P w K mg base "count_bytes" (defScope s_count_bytes) f ["number", "found"] cd A outer s H E
  exact (ss_cons (ss_set sc.nd rfl (.inl rfl) (se_cel sa_nil) rfl (.inl rfl)) (ss_cons (ss_while passes_b (st_cmp g_ge (se_var (i := 0) rfl (vis_of rfl) rfl rfl) se_int (nomark _)) (ss_cons (ss_expr (se_mt F.slot_list_append F.type_list_append m_app (se_var (i := 1) rfl (vis_of rfl) rfl rfl) (sa_cons (se_bin g_add se_int (se_bin g_mod (se_var (i := 0) rfl (vis_of rfl) rfl rfl) se_int)) sa_nil rfl) rfl rfl rfl rfl rfl) rfl) (ss_cons (ss_set sc.nd rfl (.inl rfl) (se_bin g_fdiv (se_var (i := 0) rfl (vis_of rfl) rfl rfl) se_int) rfl (.inl rfl)) ss_nil))) (ss_cons (ss_ret (se_catC (se_var (i := 1) rfl (vis_of rfl) rfl rfl) (se_lst (sa_cons (se_var (i := 0) rfl (vis_of rfl) rfl rfl) sa_nil rfl)))) ss_nil)))
theorem sc_integer_bytes : FnScope ["number"] ["number"] (defScope s_integer_bytes) := ⟨rfl, rfl, rfl, by decide +kernel, rfl, by decide +kernel, by decide +kernel⟩
theorem d_integer_bytes (c : Fx K mg base) : DefX P w K mg base 2 "integer_bytes" s_integer_bytes ["number"] F_integer_bytes := by
  obtain ⟨f_count_bytes, fd_count_bytes, D_count_bytes, m_count_bytes, G_count_bytes⟩ := d_count_bytes c
  refine DefX.mk (k := 1) (N := ["number"]) (c.def_ 12 rfl) sc_integer_bytes false rfl fun f cd A outer s H E hr hg => ?_
  have sc := sc_integer_bytes
  have tk := @takes_b P w K mg base "integer_bytes" (defScope s_integer_bytes) f ["number"] cd A outer s H E
  exact (ss_cons (ss_ret (se_call (ps := ["number"]) ⟨G_count_bytes, m_count_bytes, D_count_bytes.kp⟩ (hr.mono (by first | decide | omega)) hg tk (bd_plain D_count_bytes fun _ _ _ _ _ _ us hl => match us, hl with | [_], _ => rfl) rfl (sa_cons (se_ite (st_cmp g_ge (se_var (i := 0) rfl (vis_of rfl) rfl rfl) se_int (nomark _)) (se_bin g_mul se_int (se_var (i := 0) rfl (vis_of rfl) rfl rfl)) (se_bin g_sub (se_bin g_mul (se_neg se_int) (se_var (i := 0) rfl (vis_of rfl) rfl rfl)) se_int)) sa_nil rfl) rfl rfl rfl)) ss_nil)
theorem sc_sum_bytes : FnScope ["one", "found", "slot", "times"] ["one"] (defScope s_sum_bytes) := ⟨rfl, rfl, rfl, by decide +kernel, rfl, by decide +kernel, by decide +kernel⟩
theorem d_sum_bytes (c : Fx K mg base) : DefX P w K mg base 3 "sum_bytes" s_sum_bytes ["one"] F_sum_bytes := by
  obtain ⟨f_integer_bytes, fd_integer_bytes, D_integer_bytes, m_integer_bytes, G_integer_bytes⟩ := d_integer_bytes c
  obtain ⟨f_count_bytes, fd_count_bytes, D_count_bytes, m_count_bytes, G_count_bytes⟩ := d_count_bytes c
  have h_len := c.free 0 rfl
  refine DefX.mk (k := 2) (N := ["one", "found", "slot", "times"]) (c.def_ 13 rfl) sc_sum_bytes false rfl fun f cd A outer s H E hr hg => ?_
  have sc := sc_sum_bytes
  have tk := @takes_b P w K mg base "sum_bytes" (defScope s_sum_bytes) f ["one", "found", "slot", "times"] cd A outer s H E
  exact (ss_cons (ss_set sc.nd rfl (.inl rfl) (se_catC (se_call (ps := ["number"]) ⟨G_integer_bytes, m_integer_bytes, D_integer_bytes.kp⟩ (hr.mono (by first | decide | omega)) hg tk (bd_plain D_integer_bytes fun _ _ _ _ _ _ us hl => match us, hl with | [_], _ => rfl) rfl (sa_cons (se_ix (se_var (i := 0) rfl (vis_of rfl) rfl rfl) se_int (fun _ _ => rfl)) sa_nil rfl) rfl rfl rfl) (se_call (ps := ["number"]) ⟨G_count_bytes, m_count_bytes, D_count_bytes.kp⟩ (hr.mono (by first | decide | omega)) hg tk (bd_plain D_count_bytes fun _ _ _ _ _ _ us hl => match us, hl with | [_], _ => rfl) rfl (sa_cons (se_bltn c_len rfl h_len boot_len (sa_cons (se_ix (se_var (i := 0) rfl (vis_of rfl) rfl rfl) se_int (fun _ _ => rfl)) sa_nil rfl) (by decide) (by decide) rfl rfl) sa_nil rfl) rfl rfl rfl)) rfl (.inl rfl)) (ss_cons (ss_for passes_b rfl (si_seq (se_ix (se_var (i := 0) rfl (vis_of rfl) rfl rfl) se_int (fun _ _ => rfl))) (st_tup (n := 2) rfl (st2_cons (st_name sc.nd rfl (.inl rfl) (.inl rfl)) (st2_cons (st_name sc.nd rfl (.inl rfl) (.inl rfl)) st2_nil rfl) rfl) rfl rfl rfl) (ss_cons (ss_expr (se_mt F.slot_list_extend F.type_list_extend m_ext (se_var (i := 1) rfl (vis_of rfl) rfl rfl) (sa_cons (se_bin g_add (se_lst (sa_cons (se_var (i := 2) rfl (vis_of rfl) rfl rfl) sa_nil rfl)) (se_call (ps := ["number"]) ⟨G_integer_bytes, m_integer_bytes, D_integer_bytes.kp⟩ (hr.mono (by first | decide | omega)) hg tk (bd_plain D_integer_bytes fun _ _ _ _ _ _ us hl => match us, hl with | [_], _ => rfl) rfl (sa_cons (se_var (i := 3) rfl (vis_of rfl) rfl rfl) sa_nil rfl) rfl rfl rfl)) sa_nil rfl) rfl rfl rfl rfl rfl) rfl) ss_nil) (fun _ => rfl)) (ss_cons (ss_ret (se_var (i := 1) rfl (vis_of rfl) rfl rfl)) ss_nil)))
theorem sc_plain_bytes : FnScope ["instruction", "word", "head"] ["instruction"] (defScope s_plain_bytes) := ⟨rfl, rfl, rfl, by decide +kernel, rfl, by decide +kernel, by decide +kernel⟩
theorem d_plain_bytes (c : Fx K mg base) : DefX P w K mg base 4 "plain_bytes" s_plain_bytes ["instruction"] F_plain_bytes := by
  obtain ⟨f_count_bytes, fd_count_bytes, D_count_bytes, m_count_bytes, G_count_bytes⟩ := d_count_bytes c
  obtain ⟨f_sum_bytes, fd_sum_bytes, D_sum_bytes, m_sum_bytes, G_sum_bytes⟩ := d_sum_bytes c
  obtain ⟨_, _, gm_PLAIN_WORDS, gr_PLAIN_WORDS, gk_PLAIN_WORDS⟩ := c.con 12 rfl
  obtain ⟨_, _, gm_NOTHING, gr_NOTHING, gk_NOTHING⟩ := c.con 11 rfl
  refine DefX.mk (k := 3) (N := ["instruction", "word", "head"]) (c.def_ 15 rfl) sc_plain_bytes false rfl fun f cd A outer s H E hr hg => ?_
  have sc := sc_plain_bytes
  have tk := @takes_b P w K mg base "plain_bytes" (defScope s_plain_bytes) f ["instruction", "word", "head"] cd A outer s H E
  exact (ss_cons (ss_set sc.nd rfl (.inl rfl) (se_ix (se_var (i := 0) rfl (vis_of rfl) rfl rfl) se_int (fun _ _ => rfl)) rfl (.inl rfl)) (ss_cons (ss_set sc.nd rfl (.inl rfl) (se_lst (sa_cons (se_kix rfl gm_PLAIN_WORDS gr_PLAIN_WORDS rfl gk_PLAIN_WORDS (se_var (i := 1) rfl (vis_of rfl) rfl rfl) rfl rfl rfl rfl rfl) sa_nil rfl)) rfl (.inl rfl)) (ss_cons (ss_if (st_cmp (g_eq hr.units) (se_var (i := 1) rfl (vis_of rfl) rfl rfl) se_str (nomark _)) (ss_cons (ss_ret (se_bin g_add (se_var (i := 2) rfl (vis_of rfl) rfl rfl) (se_call (ps := ["number"]) ⟨G_count_bytes, m_count_bytes, D_count_bytes.kp⟩ (hr.mono (by first | decide | omega)) hg tk (bd_plain D_count_bytes fun _ _ _ _ _ _ us hl => match us, hl with | [_], _ => rfl) rfl (sa_cons (se_ix (se_var (i := 0) rfl (vis_of rfl) rfl rfl) se_int (fun _ _ => rfl)) sa_nil rfl) rfl rfl rfl))) ss_nil) ss_nil) (ss_cons (ss_if (st_cmp (g_eq hr.units) (se_var (i := 1) rfl (vis_of rfl) rfl rfl) se_str (nomark _)) (ss_cons (ss_ret (se_bin g_add (se_var (i := 2) rfl (vis_of rfl) rfl rfl) (se_lst (sa_cons (se_ite (st_cmp g_is (se_ix (se_var (i := 0) rfl (vis_of rfl) rfl rfl) se_int (fun _ _ => rfl)) se_non (nomark _)) (se_glob rfl gm_NOTHING gr_NOTHING rfl gk_NOTHING) (se_ix (se_var (i := 0) rfl (vis_of rfl) rfl rfl) se_int (fun _ _ => rfl))) sa_nil rfl)))) ss_nil) ss_nil) (ss_cons (ss_if (st_cmp (g_eq hr.units) (se_var (i := 1) rfl (vis_of rfl) rfl rfl) se_str (nomark _)) (ss_cons (ss_ret (se_bin g_add (se_bin g_add (se_var (i := 2) rfl (vis_of rfl) rfl rfl) (se_lst (sa_cons (se_ix (se_var (i := 0) rfl (vis_of rfl) rfl rfl) se_int (fun _ _ => rfl)) sa_nil rfl))) (se_call (ps := ["one"]) ⟨G_sum_bytes, m_sum_bytes, D_sum_bytes.kp⟩ (hr.mono (by first | decide | omega)) hg tk (bd_plain D_sum_bytes fun _ _ _ _ _ _ us hl => match us, hl with | [_], _ => rfl) rfl (sa_cons (se_ix (se_var (i := 0) rfl (vis_of rfl) rfl rfl) se_int (fun _ _ => rfl)) sa_nil rfl) rfl rfl rfl))) ss_nil) ss_nil) (ss_cons (ss_ret (se_ite (st_cmp (g_eq hr.units) (se_var (i := 1) rfl (vis_of rfl) rfl rfl) se_str (nomark _)) (se_bin g_add (se_var (i := 2) rfl (vis_of rfl) rfl rfl) (se_call (ps := ["one"]) ⟨G_sum_bytes, m_sum_bytes, D_sum_bytes.kp⟩ (hr.mono (by first | decide | omega)) hg tk (bd_plain D_sum_bytes fun _ _ _ _ _ _ us hl => match us, hl with | [_], _ => rfl) rfl (sa_cons (se_ix (se_var (i := 0) rfl (vis_of rfl) rfl rfl) se_int (fun _ _ => rfl)) sa_nil rfl) rfl rfl rfl)) (se_var (i := 2) rfl (vis_of rfl) rfl rfl))) ss_nil))))))
theorem sc_sums_bytes : FnScope ["sums", "found", "one"] ["sums"] (defScope s_sums_bytes) := ⟨rfl, rfl, rfl, by decide +kernel, rfl, by decide +kernel, by decide +kernel⟩
theorem d_sums_bytes (c : Fx K mg base) : DefX P w K mg base 4 "sums_bytes" s_sums_bytes ["sums"] F_sums_bytes := by
  obtain ⟨f_count_bytes, fd_count_bytes, D_count_bytes, m_count_bytes, G_count_bytes⟩ := d_count_bytes c
  obtain ⟨f_sum_bytes, fd_sum_bytes, D_sum_bytes, m_sum_bytes, G_sum_bytes⟩ := d_sum_bytes c
  have h_len := c.free 0 rfl
  refine DefX.mk (k := 3) (N := ["sums", "found", "one"]) (c.def_ 14 rfl) sc_sums_bytes false rfl fun f cd A outer s H E hr hg => ?_
  have sc := sc_sums_bytes
  have tk := @takes_b P w K mg base "sums_bytes" (defScope s_sums_bytes) f ["sums", "found", "one"] cd A outer s H E
  exact (ss_cons (ss_set sc.nd rfl (.inl rfl) (se_call (ps := ["number"]) ⟨G_count_bytes, m_count_bytes, D_count_bytes.kp⟩ (hr.mono (by first | decide | omega)) hg tk (bd_plain D_count_bytes fun _ _ _ _ _ _ us hl => match us, hl with | [_], _ => rfl) rfl (sa_cons (se_bltn c_len rfl h_len boot_len (sa_cons (se_var (i := 0) rfl (vis_of rfl) rfl rfl) sa_nil rfl) (by decide) (by decide) rfl rfl) sa_nil rfl) rfl rfl rfl) rfl (.inl rfl)) (ss_cons (ss_for passes_b rfl (si_seq (se_var (i := 0) rfl (vis_of rfl) rfl rfl)) (st_name sc.nd rfl (.inl rfl) (.inl rfl)) (ss_cons (ss_expr (se_mt F.slot_list_extend F.type_list_extend m_ext (se_var (i := 1) rfl (vis_of rfl) rfl rfl) (sa_cons (se_call (ps := ["one"]) ⟨G_sum_bytes, m_sum_bytes, D_sum_bytes.kp⟩ (hr.mono (by first | decide | omega)) hg tk (bd_plain D_sum_bytes fun _ _ _ _ _ _ us hl => match us, hl with | [_], _ => rfl) rfl (sa_cons (se_var (i := 2) rfl (vis_of rfl) rfl rfl) sa_nil rfl) rfl rfl rfl) sa_nil rfl) rfl rfl rfl rfl rfl) rfl) ss_nil) (fun _ => rfl)) (ss_cons (ss_ret (se_var (i := 1) rfl (vis_of rfl) rfl rfl)) ss_nil)))
theorem sc_tail_bytes : FnScope ["instruction"] ["instruction"] (defScope s_tail_bytes) := ⟨rfl, rfl, rfl, by decide +kernel, rfl, by decide +kernel, by decide +kernel⟩
theorem d_tail_bytes (c : Fx K mg base) : DefX P w K mg base 5 "tail_bytes" s_tail_bytes ["instruction"] F_tail_bytes := by
  obtain ⟨f_sums_bytes, fd_sums_bytes, D_sums_bytes, m_sums_bytes, G_sums_bytes⟩ := d_sums_bytes c
  have h_len := c.free 0 rfl
  refine DefX.mk (k := 4) (N := ["instruction"]) (c.def_ 16 rfl) sc_tail_bytes false rfl fun f cd A outer s H E hr hg => ?_
  have sc := sc_tail_bytes
  have tk := @takes_b P w K mg base "tail_bytes" (defScope s_tail_bytes) f ["instruction"] cd A outer s H E
  exact (ss_cons (ss_ret (se_ite (st_cmp (g_eq hr.units) (se_bltn c_len rfl h_len boot_len (sa_cons (se_var (i := 0) rfl (vis_of rfl) rfl rfl) sa_nil rfl) (by decide) (by decide) rfl rfl) se_int (nomark _)) (se_call (ps := ["sums"]) ⟨G_sums_bytes, m_sums_bytes, D_sums_bytes.kp⟩ (hr.mono (by first | decide | omega)) hg tk (bd_plain D_sums_bytes fun _ _ _ _ _ _ us hl => match us, hl with | [_], _ => rfl) rfl (sa_cons (se_ix (se_var (i := 0) rfl (vis_of rfl) rfl rfl) se_int (fun _ _ => rfl)) sa_nil rfl) rfl rfl rfl) (se_lst sa_nil))) ss_nil)
theorem sc_sizes_of : FnScope ["line", "some", "found", "number", "one"] ["line", "some"] (defScope s_sizes_of) := ⟨rfl, rfl, rfl, by decide +kernel, rfl, by decide +kernel, by decide +kernel⟩
theorem d_sizes_of (c : Fx K mg base) : DefX P w K mg base 6 "sizes_of" s_sizes_of ["line", "some"] F_sizes_of := by
  obtain ⟨f_tail_bytes, fd_tail_bytes, D_tail_bytes, m_tail_bytes, G_tail_bytes⟩ := d_tail_bytes c
  obtain ⟨f_plain_bytes, fd_plain_bytes, D_plain_bytes, m_plain_bytes, G_plain_bytes⟩ := d_plain_bytes c
  obtain ⟨_, _, gm_TO_WORDS, gr_TO_WORDS, gk_TO_WORDS⟩ := c.con 13 rfl
  have h_enumerate := c.free 4 rfl
  have h_len := c.free 0 rfl
  refine DefX.mk (k := 5) (N := ["line", "some", "found", "number", "one"]) (c.def_ 17 rfl) sc_sizes_of false rfl fun f cd A outer s H E hr hg => ?_
  have sc := sc_sizes_of
  have tk := @takes_b P w K mg base "sizes_of" (defScope s_sizes_of) f ["line", "some", "found", "number", "one"] cd A outer s H E
  exact (ss_cons (ss_set sc.nd rfl (.inl rfl) (se_cel sa_nil) rfl (.inl rfl)) (ss_cons (ss_for passes_b rfl (si_enum rfl h_enumerate (sa_cons (se_ix (se_var (i := 0) rfl (vis_of rfl) rfl rfl) se_int (fun _ _ => rfl)) sa_nil rfl) rfl) (st_tup (n := 2) rfl (st2_cons (st_name sc.nd rfl (.inl rfl) (.inl rfl)) (st2_cons (st_name sc.nd rfl (.inl rfl) (.inl rfl)) st2_nil rfl) rfl) rfl rfl rfl) (ss_cons (ss_if (st_cmp (g_in hr.units) (se_ix (se_var (i := 4) rfl (vis_of rfl) rfl rfl) se_int (fun _ _ => rfl)) (se_glob rfl gm_TO_WORDS gr_TO_WORDS rfl gk_TO_WORDS) rfl) (ss_cons (ss_expr (se_mt F.slot_list_append F.type_list_append m_app (se_var (i := 2) rfl (vis_of rfl) rfl rfl) (sa_cons (se_bin g_add (se_ite (st_cmp (g_in hr.units) (se_var (i := 3) rfl (vis_of rfl) rfl rfl) (se_var (i := 1) rfl (vis_of rfl) rfl rfl) rfl) se_int se_int) (se_bltn c_len rfl h_len boot_len (sa_cons (se_call (ps := ["instruction"]) ⟨G_tail_bytes, m_tail_bytes, D_tail_bytes.kp⟩ (hr.mono (by first | decide | omega)) hg tk (bd_plain D_tail_bytes fun _ _ _ _ _ _ us hl => match us, hl with | [_], _ => rfl) rfl (sa_cons (se_var (i := 4) rfl (vis_of rfl) rfl rfl) sa_nil rfl) rfl rfl rfl) sa_nil rfl) (by decide) (by decide) rfl rfl)) sa_nil rfl) rfl rfl rfl rfl rfl) rfl) ss_nil) (ss_cons (ss_expr (se_mt F.slot_list_append F.type_list_append m_app (se_var (i := 2) rfl (vis_of rfl) rfl rfl) (sa_cons (se_bltn c_len rfl h_len boot_len (sa_cons (se_call (ps := ["instruction"]) ⟨G_plain_bytes, m_plain_bytes, D_plain_bytes.kp⟩ (hr.mono (by first | decide | omega)) hg tk (bd_plain D_plain_bytes fun _ _ _ _ _ _ us hl => match us, hl with | [_], _ => rfl) rfl (sa_cons (se_var (i := 4) rfl (vis_of rfl) rfl rfl) sa_nil rfl) rfl rfl rfl) sa_nil rfl) (by decide) (by decide) rfl rfl) sa_nil rfl) rfl rfl rfl rfl rfl) rfl) ss_nil)) ss_nil) (fun _ => rfl)) (ss_cons (ss_ret (se_var (i := 2) rfl (vis_of rfl) rfl rfl)) ss_nil)))
theorem sc_too_far : FnScope ["line", "found", "places", "late", "number", "one", "byte"] ["line", "found"] (defScope s_too_far) := ⟨rfl, rfl, rfl, by decide +kernel, rfl, by decide +kernel, by decide +kernel⟩
theorem d_too_far (c : Fx K mg base) : DefX P w K mg base 7 "too_far" s_too_far ["line", "found"] F_too_far := by
  obtain ⟨f_places_by, fd_places_by, D_places_by, m_places_by, G_places_by⟩ := d_places_by c
  obtain ⟨f_sizes_of, fd_sizes_of, D_sizes_of, m_sizes_of, G_sizes_of⟩ := d_sizes_of c
  obtain ⟨_, _, gm_TO_WORDS, gr_TO_WORDS, gk_TO_WORDS⟩ := c.con 13 rfl
  have h_enumerate := c.free 4 rfl
  refine DefX.mk (k := 6) (N := ["line", "found", "places", "late", "number", "one", "byte"]) (c.def_ 19 rfl) sc_too_far false rfl fun f cd A outer s H E hr hg => ?_
  have sc := sc_too_far
  have tk := @takes_b P w K mg base "too_far" (defScope s_too_far) f ["line", "found", "places", "late", "number", "one", "byte"] cd A outer s H E
  exact (ss_cons (ss_set sc.nd rfl (.inl rfl) (se_call (ps := ["sizes"]) ⟨G_places_by, m_places_by, D_places_by.kp⟩ (hr.mono (by first | decide | omega)) hg tk (bd_plain D_places_by fun _ _ _ _ _ _ us hl => match us, hl with | [_], _ => rfl) rfl (sa_cons (se_call (ps := ["line", "some"]) ⟨G_sizes_of, m_sizes_of, D_sizes_of.kp⟩ (hr.mono (by first | decide | omega)) hg tk (bd_plain D_sizes_of fun _ _ _ _ _ _ us hl => match us, hl with | [_, _], _ => rfl) rfl (sa_cons (se_var (i := 0) rfl (vis_of rfl) rfl rfl) (sa_cons (se_var (i := 1) rfl (vis_of rfl) rfl rfl) sa_nil rfl) rfl) rfl rfl rfl) sa_nil rfl) rfl rfl rfl) rfl (.inl rfl)) (ss_cons (ss_set sc.nd rfl (.inl rfl) (se_cel sa_nil) rfl (.inl rfl)) (ss_cons (ss_for passes_b rfl (si_enum rfl h_enumerate (sa_cons (se_ix (se_var (i := 0) rfl (vis_of rfl) rfl rfl) se_int (fun _ _ => rfl)) sa_nil rfl) rfl) (st_tup (n := 2) rfl (st2_cons (st_name sc.nd rfl (.inl rfl) (.inl rfl)) (st2_cons (st_name sc.nd rfl (.inl rfl) (.inl rfl)) st2_nil rfl) rfl) rfl rfl rfl) (ss_cons (ss_if (SW.st (sw_and (st_cmp (g_in hr.units) (se_ix (se_var (i := 5) rfl (vis_of rfl) rfl rfl) se_int (fun _ _ => rfl)) (se_glob rfl gm_TO_WORDS gr_TO_WORDS rfl gk_TO_WORDS) rfl) (sw_and1 (st_cmp (g_notin hr.units) (se_var (i := 4) rfl (vis_of rfl) rfl rfl) (se_var (i := 1) rfl (vis_of rfl) rfl rfl) rfl)))) (ss_cons (ss_set sc.nd rfl (.inl rfl) (se_bin g_sub (se_bin g_add se_int (se_ix (se_var (i := 2) rfl (vis_of rfl) rfl rfl) (se_ix (se_var (i := 5) rfl (vis_of rfl) rfl rfl) se_int (fun _ _ => rfl)) (fun _ _ => rfl))) (se_ix (se_var (i := 2) rfl (vis_of rfl) rfl rfl) (se_bin g_add (se_var (i := 4) rfl (vis_of rfl) rfl rfl) se_int) (fun _ _ => rfl))) rfl (.inl rfl)) (ss_cons (ss_if (st_not (st_chain g_le g_le se_int (se_var (i := 6) rfl (vis_of rfl) rfl rfl) se_int rfl)) (ss_cons (ss_expr (se_mt F.slot_list_append F.type_list_append m_app (se_var (i := 3) rfl (vis_of rfl) rfl rfl) (sa_cons (se_var (i := 4) rfl (vis_of rfl) rfl rfl) sa_nil rfl) rfl rfl rfl rfl rfl) rfl) ss_nil) ss_nil) ss_nil)) ss_nil) ss_nil) (fun _ => rfl)) (ss_cons (ss_ret (se_var (i := 3) rfl (vis_of rfl) rfl rfl)) ss_nil))))
theorem sc_longs_by : FnScope ["line", "found", "late"] ["line"] (defScope s_longs_by) := ⟨rfl, rfl, rfl, by decide +kernel, rfl, by decide +kernel, by decide +kernel⟩
theorem d_longs_by (c : Fx K mg base) : DefX P w K mg base 8 "longs_by" s_longs_by ["line"] F_longs_by := by
  obtain ⟨f_too_far, fd_too_far, D_too_far, m_too_far, G_too_far⟩ := d_too_far c
  obtain ⟨f_places_by, fd_places_by, D_places_by, m_places_by, G_places_by⟩ := d_places_by c
  obtain ⟨f_sizes_of, fd_sizes_of, D_sizes_of, m_sizes_of, G_sizes_of⟩ := d_sizes_of c
  have h_sorted := c.free 6 rfl
  refine DefX.mk (k := 7) (N := ["line", "found", "late"]) (c.def_ 20 rfl) sc_longs_by false rfl fun f cd A outer s H E hr hg => ?_
  have sc := sc_longs_by
  have tk := @takes_b P w K mg base "longs_by" (defScope s_longs_by) f ["line", "found", "late"] cd A outer s H E
  exact (ss_cons (ss_par (i := 1) (j := 2) rfl sc.nd rfl rfl (by decide) rfl rfl (sa_cons (se_lst sa_nil) (sa_cons (se_call (ps := ["line", "found"]) ⟨G_too_far, m_too_far, D_too_far.kp⟩ (hr.mono (by first | decide | omega)) hg tk (bd_plain D_too_far fun _ _ _ _ _ _ us hl => match us, hl with | [_, _], _ => rfl) rfl (sa_cons (se_var (i := 0) rfl (vis_of rfl) rfl rfl) (sa_cons (se_lst sa_nil) sa_nil rfl) rfl) rfl rfl rfl) sa_nil rfl) rfl) rfl rfl) (ss_cons (ss_while passes_b (st_cmp (g_ne hr.units) (se_var (i := 2) rfl (vis_of rfl) rfl rfl) (se_lst sa_nil) (nomark _)) (ss_cons (ss_set sc.nd rfl (.inl rfl) (se_bltn c_sorted rfl h_sorted boot_sorted (sa_cons (se_bin g_add (se_var (i := 1) rfl (vis_of rfl) rfl rfl) (se_var (i := 2) rfl (vis_of rfl) rfl rfl)) sa_nil rfl) (by decide) (by decide) rfl rfl) rfl (.inl rfl)) (ss_cons (ss_set sc.nd rfl (.inl rfl) (se_call (ps := ["line", "found"]) ⟨G_too_far, m_too_far, D_too_far.kp⟩ (hr.mono (by first | decide | omega)) hg tk (bd_plain D_too_far fun _ _ _ _ _ _ us hl => match us, hl with | [_, _], _ => rfl) rfl (sa_cons (se_var (i := 0) rfl (vis_of rfl) rfl rfl) (sa_cons (se_var (i := 1) rfl (vis_of rfl) rfl rfl) sa_nil rfl) rfl) rfl rfl rfl) rfl (.inl rfl)) ss_nil))) (ss_cons (ss_ret (se_tup (sa_cons (se_var (i := 1) rfl (vis_of rfl) rfl rfl) (sa_cons (se_call (ps := ["sizes"]) ⟨G_places_by, m_places_by, D_places_by.kp⟩ (hr.mono (by first | decide | omega)) hg tk (bd_plain D_places_by fun _ _ _ _ _ _ us hl => match us, hl with | [_], _ => rfl) rfl (sa_cons (se_call (ps := ["line", "some"]) ⟨G_sizes_of, m_sizes_of, D_sizes_of.kp⟩ (hr.mono (by first | decide | omega)) hg tk (bd_plain D_sizes_of fun _ _ _ _ _ _ us hl => match us, hl with | [_, _], _ => rfl) rfl (sa_cons (se_var (i := 0) rfl (vis_of rfl) rfl rfl) (sa_cons (se_var (i := 1) rfl (vis_of rfl) rfl rfl) sa_nil rfl) rfl) rfl rfl rfl) sa_nil rfl) rfl rfl rfl) sa_nil rfl) rfl))) ss_nil)))
theorem sc_made_by : FnScope ["line", "found", "some", "places", "number", "one", "word", "to"] ["line"] (defScope s_made_by) := ⟨rfl, rfl, rfl, by decide +kernel, rfl, by decide +kernel, by decide +kernel⟩
theorem d_made_by (c : Fx K mg base) : DefX P w K mg base 9 "made_by" s_made_by ["line"] F_made_by := by
  obtain ⟨f_longs_by, fd_longs_by, D_longs_by, m_longs_by, G_longs_by⟩ := d_longs_by c
  obtain ⟨f_plain_bytes, fd_plain_bytes, D_plain_bytes, m_plain_bytes, G_plain_bytes⟩ := d_plain_bytes c
  obtain ⟨f_tail_bytes, fd_tail_bytes, D_tail_bytes, m_tail_bytes, G_tail_bytes⟩ := d_tail_bytes c
  obtain ⟨_, _, gm_HEAD, gr_HEAD, gk_HEAD⟩ := c.con 8 rfl
  obtain ⟨_, _, gm_TO_WORDS, gr_TO_WORDS, gk_TO_WORDS⟩ := c.con 13 rfl
  have h_list := c.free 15 rfl
  have h_enumerate := c.free 4 rfl
  have h_tuple := c.free 8 rfl
  refine DefX.mk (k := 8) (N := ["line", "found", "some", "places", "number", "one", "word", "to"]) (c.def_ 21 rfl) sc_made_by false rfl fun f cd A outer s H E hr hg => ?_
  have sc := sc_made_by
  have tk := @takes_b P w K mg base "made_by" (defScope s_made_by) f ["line", "found", "some", "places", "number", "one", "word", "to"] cd A outer s H E
  exact (ss_cons (ss_asg (se_call (ps := ["line"]) ⟨G_longs_by, m_longs_by, D_longs_by.kp⟩ (hr.mono (by first | decide | omega)) hg tk (bd_plain D_longs_by fun _ _ _ _ _ _ us hl => match us, hl with | [_], _ => rfl) rfl (sa_cons (se_var (i := 0) rfl (vis_of rfl) rfl rfl) sa_nil rfl) rfl rfl rfl) (st_tup (n := 2) rfl (st2_cons (st_name sc.nd rfl (.inl rfl) (.inl rfl)) (st2_cons (st_name sc.nd rfl (.inl rfl) (.inl rfl)) st2_nil rfl) rfl) rfl rfl rfl) rfl rfl rfl) (ss_cons (ss_set sc.nd rfl (.inl rfl) (se_catC (se_btyp (c_list hr.hd) rfl h_list boot_list (sa_cons (se_glob rfl gm_HEAD gr_HEAD rfl gk_HEAD) sa_nil rfl) (by decide) (by decide) rfl rfl) (se_lst (sa_cons (se_ix (se_var (i := 0) rfl (vis_of rfl) rfl rfl) se_int (fun _ _ => rfl)) sa_nil rfl))) rfl (.inl rfl)) (ss_cons (ss_for passes_b rfl (si_enum rfl h_enumerate (sa_cons (se_ix (se_var (i := 0) rfl (vis_of rfl) rfl rfl) se_int (fun _ _ => rfl)) sa_nil rfl) rfl) (st_tup (n := 2) rfl (st2_cons (st_name sc.nd rfl (.inl rfl) (.inl rfl)) (st2_cons (st_name sc.nd rfl (.inl rfl) (.inl rfl)) st2_nil rfl) rfl) rfl rfl rfl) (ss_cons (ss_if (st_cmp (g_notin hr.units) (se_ix (se_var (i := 5) rfl (vis_of rfl) rfl rfl) se_int (fun _ _ => rfl)) (se_glob rfl gm_TO_WORDS gr_TO_WORDS rfl gk_TO_WORDS) rfl) (ss_cons (ss_expr (se_mt F.slot_list_extend F.type_list_extend m_ext (se_var (i := 1) rfl (vis_of rfl) rfl rfl) (sa_cons (se_call (ps := ["instruction"]) ⟨G_plain_bytes, m_plain_bytes, D_plain_bytes.kp⟩ (hr.mono (by first | decide | omega)) hg tk (bd_plain D_plain_bytes fun _ _ _ _ _ _ us hl => match us, hl with | [_], _ => rfl) rfl (sa_cons (se_var (i := 5) rfl (vis_of rfl) rfl rfl) sa_nil rfl) rfl rfl rfl) sa_nil rfl) rfl rfl rfl rfl rfl) rfl) (ss_cons ss_continue ss_nil)) ss_nil) (ss_cons (ss_par (i := 6) (j := 7) rfl sc.nd rfl rfl (by decide) rfl rfl (sa_cons (se_bin g_add se_int (se_bin g_mul se_int (se_kix rfl gm_TO_WORDS gr_TO_WORDS rfl gk_TO_WORDS (se_ix (se_var (i := 5) rfl (vis_of rfl) rfl rfl) se_int (fun _ _ => rfl)) rfl rfl rfl rfl rfl))) (sa_cons (se_ix (se_var (i := 3) rfl (vis_of rfl) rfl rfl) (se_ix (se_var (i := 5) rfl (vis_of rfl) rfl rfl) se_int (fun _ _ => rfl)) (fun _ _ => rfl)) sa_nil rfl) rfl) rfl rfl) (ss_cons (ss_if (st_cmp (g_in hr.units) (se_var (i := 4) rfl (vis_of rfl) rfl rfl) (se_var (i := 2) rfl (vis_of rfl) rfl rfl) rfl) (ss_cons (ss_expr (se_mt F.slot_list_extend F.type_list_extend m_ext (se_var (i := 1) rfl (vis_of rfl) rfl rfl) (sa_cons (se_lst (sa_cons (se_bin g_add (se_var (i := 6) rfl (vis_of rfl) rfl rfl) se_int) (sa_cons (se_bin g_mod (se_var (i := 7) rfl (vis_of rfl) rfl rfl) se_int) (sa_cons (se_bin g_fdiv (se_var (i := 7) rfl (vis_of rfl) rfl rfl) se_int) sa_nil rfl) rfl) rfl)) sa_nil rfl) rfl rfl rfl rfl rfl) rfl) ss_nil) (ss_cons (ss_expr (se_mt F.slot_list_extend F.type_list_extend m_ext (se_var (i := 1) rfl (vis_of rfl) rfl rfl) (sa_cons (se_lst (sa_cons (se_var (i := 6) rfl (vis_of rfl) rfl rfl) (sa_cons (se_bin g_sub (se_bin g_add se_int (se_var (i := 7) rfl (vis_of rfl) rfl rfl)) (se_ix (se_var (i := 3) rfl (vis_of rfl) rfl rfl) (se_bin g_add (se_var (i := 4) rfl (vis_of rfl) rfl rfl) se_int) (fun _ _ => rfl))) sa_nil rfl) rfl)) sa_nil rfl) rfl rfl rfl rfl rfl) rfl) ss_nil)) (ss_cons (ss_expr (se_mt F.slot_list_extend F.type_list_extend m_ext (se_var (i := 1) rfl (vis_of rfl) rfl rfl) (sa_cons (se_call (ps := ["instruction"]) ⟨G_tail_bytes, m_tail_bytes, D_tail_bytes.kp⟩ (hr.mono (by first | decide | omega)) hg tk (bd_plain D_tail_bytes fun _ _ _ _ _ _ us hl => match us, hl with | [_], _ => rfl) rfl (sa_cons (se_var (i := 5) rfl (vis_of rfl) rfl rfl) sa_nil rfl) rfl rfl rfl) sa_nil rfl) rfl rfl rfl rfl rfl) rfl) ss_nil)))) (fun _ => rfl)) (ss_cons (ss_ret (se_tup (sa_cons (se_btyp c_tuple rfl h_tuple boot_tuple (sa_cons (se_var (i := 1) rfl (vis_of rfl) rfl rfl) sa_nil rfl) (by decide) (by decide) rfl rfl) (sa_cons (se_btyp c_tuple rfl h_tuple boot_tuple (sa_cons (se_slc (se_var (i := 3) rfl (vis_of rfl) rfl rfl) so_none (so_some (se_neg se_int))) sa_nil rfl) (by decide) (by decide) rfl rfl) sa_nil rfl) rfl))) ss_nil))))
theorem sc_is_integer : FnScope ["value"] ["value"] (defScope s_is_integer) := ⟨rfl, rfl, rfl, by decide +kernel, rfl, by decide +kernel, by decide +kernel⟩
theorem d_is_integer (c : Fx K mg base) : DefX P w K mg base 1 "is_integer" s_is_integer ["value"] F_is_integer := by
  have h_isinstance := c.free 10 rfl
  have h_bool := c.free 11 rfl
  have h_int := c.free 3 rfl
  refine DefX.mk (k := 0) (N := ["value"]) (c.def_ 0 rfl) sc_is_integer false rfl fun f cd A outer s H E hr hg => ?_
  have sc := sc_is_integer
  have tk := @takes_b P w K mg base "is_integer" (defScope s_is_integer) f ["value"] cd A outer s H E
  exact (ss_cons (ss_ret (se_and (se_isi (T := .int) (se_var (i := 0) rfl (vis_of rfl) rfl rfl) rfl h_isinstance rfl h_int rfl) (se_one (se_not (se_isi (T := .bool) (se_var (i := 0) rfl (vis_of rfl) rfl rfl) rfl h_isinstance rfl h_bool rfl))))) ss_nil)
theorem sc_is_count : FnScope ["value"] ["value"] (defScope s_is_count) := ⟨rfl, rfl, rfl, by decide +kernel, rfl, by decide +kernel, by decide +kernel⟩
theorem d_is_count (c : Fx K mg base) : DefX P w K mg base 2 "is_count" s_is_count ["value"] F_is_count := by
  obtain ⟨f_is_integer, fd_is_integer, D_is_integer, m_is_integer, G_is_integer⟩ := d_is_integer c
  refine DefX.mk (k := 1) (N := ["value"]) (c.def_ 1 rfl) sc_is_count false rfl fun f cd A outer s H E hr hg => ?_
  have sc := sc_is_count
  have tk := @takes_b P w K mg base "is_count" (defScope s_is_count) f ["value"] cd A outer s H E
  exact (ss_cons (ss_ret (se_and (se_call (ps := ["value"]) ⟨G_is_integer, m_is_integer, D_is_integer.kp⟩ (hr.mono (by first | decide | omega)) hg tk (bd_plain D_is_integer fun _ _ _ _ _ _ us hl => match us, hl with | [_], _ => rfl) rfl (sa_cons (se_var (i := 0) rfl (vis_of rfl) rfl rfl) sa_nil rfl) rfl rfl rfl) (se_one (se_cmp g_ge (se_var (i := 0) rfl (vis_of rfl) rfl rfl) se_int (nomark _))))) ss_nil)
theorem sc_is_below : FnScope ["value", "many"] ["value", "many"] (defScope s_is_below) := ⟨rfl, rfl, rfl, by decide +kernel, rfl, by decide +kernel, by decide +kernel⟩
theorem d_is_below (c : Fx K mg base) : DefX P w K mg base 3 "is_below" s_is_below ["value", "many"] F_is_below := by
  obtain ⟨f_is_count, fd_is_count, D_is_count, m_is_count, G_is_count⟩ := d_is_count c
  refine DefX.mk (k := 2) (N := ["value", "many"]) (c.def_ 6 rfl) sc_is_below false rfl fun f cd A outer s H E hr hg => ?_
  have sc := sc_is_below
  have tk := @takes_b P w K mg base "is_below" (defScope s_is_below) f ["value", "many"] cd A outer s H E
  exact (ss_cons (ss_ret (se_and (se_call (ps := ["value"]) ⟨G_is_count, m_is_count, D_is_count.kp⟩ (hr.mono (by first | decide | omega)) hg tk (bd_plain D_is_count fun _ _ _ _ _ _ us hl => match us, hl with | [_], _ => rfl) rfl (sa_cons (se_var (i := 0) rfl (vis_of rfl) rfl rfl) sa_nil rfl) rfl rfl rfl) (se_one (se_cmp g_lt (se_var (i := 0) rfl (vis_of rfl) rfl rfl) (se_var (i := 1) rfl (vis_of rfl) rfl rfl) (nomark _))))) ss_nil)
theorem sc_is_amount : FnScope ["value", "most"] ["value", "most"] (defScope s_is_amount) := ⟨rfl, rfl, rfl, by decide +kernel, rfl, by decide +kernel, by decide +kernel⟩
theorem d_is_amount (c : Fx K mg base) : DefX P w K mg base 2 "is_amount" s_is_amount ["value", "most"] F_is_amount := by
  obtain ⟨f_is_integer, fd_is_integer, D_is_integer, m_is_integer, G_is_integer⟩ := d_is_integer c
  refine DefX.mk (k := 1) (N := ["value", "most"]) (c.def_ 2 rfl) sc_is_amount false rfl fun f cd A outer s H E hr hg => ?_
  have sc := sc_is_amount
  have tk := @takes_b P w K mg base "is_amount" (defScope s_is_amount) f ["value", "most"] cd A outer s H E
  exact (ss_cons (ss_ret (se_and (se_call (ps := ["value"]) ⟨G_is_integer, m_is_integer, D_is_integer.kp⟩ (hr.mono (by first | decide | omega)) hg tk (bd_plain D_is_integer fun _ _ _ _ _ _ us hl => match us, hl with | [_], _ => rfl) rfl (sa_cons (se_var (i := 0) rfl (vis_of rfl) rfl rfl) sa_nil rfl) rfl rfl rfl) (se_one (se_chain g_le g_le (se_neg (se_var (i := 1) rfl (vis_of rfl) rfl rfl)) (se_var (i := 0) rfl (vis_of rfl) rfl rfl) (se_var (i := 1) rfl (vis_of rfl) rfl rfl) rfl)))) ss_nil)
theorem sc_is_rising : FnScope ["values", "one", "other"] ["values"] (defScope s_is_rising) := ⟨rfl, rfl, rfl, by decide +kernel, rfl, by decide +kernel, by decide +kernel⟩
theorem d_is_rising (c : Fx K mg base) : DefX P w K mg base 1 "is_rising" s_is_rising ["values"] F_is_rising := by
  have h_zip := c.free 13 rfl
  have h_all := c.free 14 rfl
  refine DefX.mk (k := 0) (N := ["values", "one", "other"]) (c.def_ 3 rfl) sc_is_rising false rfl fun f cd A outer s H E hr hg => ?_
  have sc := sc_is_rising
  have tk := @takes_b P w K mg base "is_rising" (defScope s_is_rising) f ["values", "one", "other"] cd A outer s H E
  exact (ss_cons (ss_ret (se_bltn (c_all rfl) rfl h_all boot_all (sa_cons (se_lc (own := [(("one" : Str), 1), (("other" : Str), 2)]) rfl sc.nd (by exact (si_zip rfl h_zip (sa_cons (se_var (i := 0) rfl (vis_of rfl) rfl rfl) (sa_cons (se_slc (se_var (i := 0) rfl (vis_of rfl) rfl rfl) (so_some se_int) so_none) sa_nil rfl) rfl) rfl rfl)) (blkOk_by (N := ["values", "one", "other"]) (sc := defScope s_is_rising) (by decide +kernel)) (fun _ _ _ _ _ => (sv_tup (n := 2) rfl (svs_cons (sv_name sc.nd rfl (.inl rfl) (.inr rfl) (by decide)) (svs_cons (sv_name sc.nd rfl (.inl rfl) (.inr rfl) (by decide)) svs_nil rfl) rfl) rfl rfl rfl)) (fun _ _ _ _ _ => sts_nil) (fun _ _ _ _ _ => (se_cmp (by exact g_lt) (se_var (i := 1) rfl (vis_of rfl) rfl rfl) (se_var (i := 2) rfl (vis_of rfl) rfl rfl) (nomark _))) (fun _ => rfl)) sa_nil rfl) (by decide) (by decide) rfl rfl)) ss_nil)
theorem sc_is_tuple_of : FnScope ["value", "many"] ["value", "many"] (defScope s_is_tuple_of) := ⟨rfl, rfl, rfl, by decide +kernel, rfl, by decide +kernel, by decide +kernel⟩
theorem d_is_tuple_of (c : Fx K mg base) : DefX P w K mg base 1 "is_tuple_of" s_is_tuple_of ["value", "many"] F_is_tuple_of := by
  have h_len := c.free 0 rfl
  have h_isinstance := c.free 10 rfl
  have h_tuple := c.free 8 rfl
  refine DefX.mk (k := 0) (N := ["value", "many"]) (c.def_ 4 rfl) sc_is_tuple_of false rfl fun f cd A outer s H E hr hg => ?_
  have sc := sc_is_tuple_of
  have tk := @takes_b P w K mg base "is_tuple_of" (defScope s_is_tuple_of) f ["value", "many"] cd A outer s H E
  exact (ss_cons (ss_ret (se_and (se_isi (T := .tuple) (se_var (i := 0) rfl (vis_of rfl) rfl rfl) rfl h_isinstance rfl h_tuple rfl) (se_one (se_cmp (g_eq hr.units) (se_bltn c_len rfl h_len boot_len (sa_cons (se_var (i := 0) rfl (vis_of rfl) rfl rfl) sa_nil rfl) (by decide) (by decide) rfl rfl) (se_var (i := 1) rfl (vis_of rfl) rfl rfl) (nomark _))))) ss_nil)
theorem sc_is_sum_of : FnScope ["value", "many", "term"] ["value", "many"] (defScope s_is_sum_of) := ⟨rfl, rfl, rfl, by decide +kernel, rfl, by decide +kernel, by decide +kernel⟩
theorem d_is_sum_of (c : Fx K mg base) : DefX P w K mg base 3 "is_sum_of" s_is_sum_of ["value", "many"] F_is_sum_of := by
  obtain ⟨f_is_amount, fd_is_amount, D_is_amount, m_is_amount, G_is_amount⟩ := d_is_amount c
  obtain ⟨f_is_tuple_of, fd_is_tuple_of, D_is_tuple_of, m_is_tuple_of, G_is_tuple_of⟩ := d_is_tuple_of c
  obtain ⟨f_is_count, fd_is_count, D_is_count, m_is_count, G_is_count⟩ := d_is_count c
  obtain ⟨f_is_rising, fd_is_rising, D_is_rising, m_is_rising, G_is_rising⟩ := d_is_rising c
  obtain ⟨_, _, gm_MOST_AMOUNT, gr_MOST_AMOUNT, gk_MOST_AMOUNT⟩ := c.con 0 rfl
  have h_isinstance := c.free 10 rfl
  have h_tuple := c.free 8 rfl
  refine DefX.mk (k := 2) (N := ["value", "many", "term"]) (c.def_ 5 rfl) sc_is_sum_of false rfl fun f cd A outer s H E hr hg => ?_
  have sc := sc_is_sum_of
  have tk := @takes_b P w K mg base "is_sum_of" (defScope s_is_sum_of) f ["value", "many", "term"] cd A outer s H E
  exact (ss_cons (ss_if (SW.st (sw_or (st_not (st_truth (se_call (ps := ["value", "many"]) ⟨G_is_tuple_of, m_is_tuple_of, D_is_tuple_of.kp⟩ (hr.mono (by first | decide | omega)) hg tk (bd_plain D_is_tuple_of fun _ _ _ _ _ _ us hl => match us, hl with | [_, _], _ => rfl) rfl (sa_cons (se_var (i := 0) rfl (vis_of rfl) rfl rfl) (sa_cons se_int sa_nil rfl) rfl) rfl rfl rfl) (fun _ => rfl))) (sw_or (st_not (st_truth (se_call (ps := ["value", "most"]) ⟨G_is_amount, m_is_amount, D_is_amount.kp⟩ (hr.mono (by first | decide | omega)) hg tk (bd_plain D_is_amount fun _ _ _ _ _ _ us hl => match us, hl with | [_, _], _ => rfl) rfl (sa_cons (se_ix (se_var (i := 0) rfl (vis_of rfl) rfl rfl) se_int (fun _ _ => rfl)) (sa_cons (se_glob rfl gm_MOST_AMOUNT gr_MOST_AMOUNT rfl gk_MOST_AMOUNT) sa_nil rfl) rfl) rfl rfl rfl) (fun _ => rfl))) (sw_or1 (st_not (st_truth (se_isi (T := .tuple) (se_ix (se_var (i := 0) rfl (vis_of rfl) rfl rfl) se_int (fun _ _ => rfl)) rfl h_isinstance rfl h_tuple rfl) (fun _ => rfl))))))) (ss_cons (ss_ret se_bl) ss_nil) ss_nil) (ss_cons (ss_for passes_b rfl (si_seq (se_ix (se_var (i := 0) rfl (vis_of rfl) rfl rfl) se_int (fun _ _ => rfl))) (st_name sc.nd rfl (.inl rfl) (.inl rfl)) (ss_cons (ss_if (SW.st (sw_or (st_not (st_truth (se_call (ps := ["value", "many"]) ⟨G_is_tuple_of, m_is_tuple_of, D_is_tuple_of.kp⟩ (hr.mono (by first | decide | omega)) hg tk (bd_plain D_is_tuple_of fun _ _ _ _ _ _ us hl => match us, hl with | [_, _], _ => rfl) rfl (sa_cons (se_var (i := 2) rfl (vis_of rfl) rfl rfl) (sa_cons se_int sa_nil rfl) rfl) rfl rfl rfl) (fun _ => rfl))) (sw_or (st_not (st_truth (se_call (ps := ["value"]) ⟨G_is_count, m_is_count, D_is_count.kp⟩ (hr.mono (by first | decide | omega)) hg tk (bd_plain D_is_count fun _ _ _ _ _ _ us hl => match us, hl with | [_], _ => rfl) rfl (sa_cons (se_ix (se_var (i := 2) rfl (vis_of rfl) rfl rfl) se_int (fun _ _ => rfl)) sa_nil rfl) rfl rfl rfl) (fun _ => rfl))) (sw_or1 (st_cmp g_ge (se_ix (se_var (i := 2) rfl (vis_of rfl) rfl rfl) se_int (fun _ _ => rfl)) (se_var (i := 1) rfl (vis_of rfl) rfl rfl) (nomark _)))))) (ss_cons (ss_ret se_bl) ss_nil) ss_nil) (ss_cons (ss_if (SW.st (sw_or (st_not (st_truth (se_call (ps := ["value", "most"]) ⟨G_is_amount, m_is_amount, D_is_amount.kp⟩ (hr.mono (by first | decide | omega)) hg tk (bd_plain D_is_amount fun _ _ _ _ _ _ us hl => match us, hl with | [_, _], _ => rfl) rfl (sa_cons (se_ix (se_var (i := 2) rfl (vis_of rfl) rfl rfl) se_int (fun _ _ => rfl)) (sa_cons (se_glob rfl gm_MOST_AMOUNT gr_MOST_AMOUNT rfl gk_MOST_AMOUNT) sa_nil rfl) rfl) rfl rfl rfl) (fun _ => rfl))) (sw_or1 (st_cmp (g_eq hr.units) (se_ix (se_var (i := 2) rfl (vis_of rfl) rfl rfl) se_int (fun _ _ => rfl)) se_int (nomark _))))) (ss_cons (ss_ret se_bl) ss_nil) ss_nil) ss_nil)) (fun _ => rfl)) (ss_cons (ss_ret (se_call (ps := ["values"]) ⟨G_is_rising, m_is_rising, D_is_rising.kp⟩ (hr.mono (by first | decide | omega)) hg tk (bd_plain D_is_rising fun _ _ _ _ _ _ us hl => match us, hl with | [_], _ => rfl) rfl (sa_cons (se_lc (own := [(("term" : Str), 2)]) rfl sc.nd (by exact (si_seq (se_ix (se_var (i := 0) rfl (vis_of rfl) rfl rfl) se_int (fun _ _ => rfl)))) (blkOk_by (N := ["value", "many", "term"]) (sc := defScope s_is_sum_of) (by decide +kernel)) (fun _ _ _ _ _ => (sv_name sc.nd rfl (.inl rfl) (.inr rfl) (by decide))) (fun _ _ _ _ _ => sts_nil) (fun _ _ _ _ _ => (se_ix (se_var (i := 2) rfl (vis_of rfl) rfl rfl) se_int (fun _ _ => rfl))) (fun _ => rfl)) sa_nil rfl) rfl rfl rfl)) ss_nil)))
theorem sc_are_sums : FnScope ["value", "many", "one"] ["value", "many"] (defScope s_are_sums) := ⟨rfl, rfl, rfl, by decide +kernel, rfl, by decide +kernel, by decide +kernel⟩
theorem d_are_sums (c : Fx K mg base) : DefX P w K mg base 4 "are_sums" s_are_sums ["value", "many"] F_are_sums := by
  obtain ⟨f_is_sum_of, fd_is_sum_of, D_is_sum_of, m_is_sum_of, G_is_sum_of⟩ := d_is_sum_of c
  obtain ⟨_, _, gm_MOST_SUMS, gr_MOST_SUMS, gk_MOST_SUMS⟩ := c.con 4 rfl
  have h_len := c.free 0 rfl
  have h_min := c.free 9 rfl
  have h_isinstance := c.free 10 rfl
  have h_tuple := c.free 8 rfl
  have h_all := c.free 14 rfl
  refine DefX.mk (k := 3) (N := ["value", "many", "one"]) (c.def_ 7 rfl) sc_are_sums false rfl fun f cd A outer s H E hr hg => ?_
  have sc := sc_are_sums
  have tk := @takes_b P w K mg base "are_sums" (defScope s_are_sums) f ["value", "many", "one"] cd A outer s H E
  exact (ss_cons (ss_if (SW.st (sw_or (st_not (st_truth (se_isi (T := .tuple) (se_var (i := 0) rfl (vis_of rfl) rfl rfl) rfl h_isinstance rfl h_tuple rfl) (fun _ => rfl))) (sw_or1 (st_cmp g_gt (se_bltn c_len rfl h_len boot_len (sa_cons (se_var (i := 0) rfl (vis_of rfl) rfl rfl) sa_nil rfl) (by decide) (by decide) rfl rfl) (se_bltn (c_min rfl) rfl h_min boot_min (sa_cons (se_glob rfl gm_MOST_SUMS gr_MOST_SUMS rfl gk_MOST_SUMS) (sa_cons (se_var (i := 1) rfl (vis_of rfl) rfl rfl) sa_nil rfl) rfl) (by decide) (by decide) rfl rfl) (nomark _))))) (ss_cons (ss_ret se_bl) ss_nil) ss_nil) (ss_cons (ss_ret (se_bltn (c_all rfl) rfl h_all boot_all (sa_cons (se_lc (own := [(("one" : Str), 2)]) rfl sc.nd (by exact (si_seq (se_var (i := 0) rfl (vis_of rfl) rfl rfl))) (blkOk_by (N := ["value", "many", "one"]) (sc := defScope s_are_sums) (by decide +kernel)) (fun _ _ _ _ _ => (sv_name sc.nd rfl (.inl rfl) (.inr rfl) (by decide))) (fun _ _ _ _ _ => sts_nil) (fun _ _ _ _ _ => (by exact (se_call (ps := ["value", "many"]) ⟨G_is_sum_of, m_is_sum_of, D_is_sum_of.kp⟩ (hr.mono (by first | decide | omega)) hg takes0 (bd_plain D_is_sum_of fun _ _ _ _ _ _ us hl => match us, hl with | [_, _], _ => rfl) rfl (sa_cons (se_var (i := 2) rfl (vis_of rfl) rfl rfl) (sa_cons (se_var (i := 1) rfl (vis_of rfl) rfl rfl) sa_nil rfl) rfl) rfl rfl rfl))) (fun _ => rfl)) sa_nil rfl) (by decide) (by decide) rfl rfl)) ss_nil))
theorem sc_is_instruction : FnScope ["value", "many", "size", "word"] ["value", "many", "size"] (defScope s_is_instruction) := ⟨rfl, rfl, rfl, by decide +kernel, rfl, by decide +kernel, by decide +kernel⟩
theorem d_is_instruction (c : Fx K mg base) : DefX P w K mg base 5 "is_instruction" s_is_instruction ["value", "many", "size"] F_is_instruction := by
  obtain ⟨f_are_sums, fd_are_sums, D_are_sums, m_are_sums, G_are_sums⟩ := d_are_sums c
  obtain ⟨f_is_below, fd_is_below, D_is_below, m_is_below, G_is_below⟩ := d_is_below c
  obtain ⟨f_is_sum_of, fd_is_sum_of, D_is_sum_of, m_is_sum_of, G_is_sum_of⟩ := d_is_sum_of c
  obtain ⟨_, _, gm_WITH_SUMS, gr_WITH_SUMS, gk_WITH_SUMS⟩ := c.con 7 rfl
  obtain ⟨_, _, gm_MOST_MARK, gr_MOST_MARK, gk_MOST_MARK⟩ := c.con 2 rfl
  obtain ⟨_, _, gm_TO_ALONE, gr_TO_ALONE, gk_TO_ALONE⟩ := c.con 6 rfl
  have h_isinstance := c.free 10 rfl
  have h_str := c.free 12 rfl
  have h_tuple := c.free 8 rfl
  have h_len := c.free 0 rfl
  refine DefX.mk (k := 4) (N := ["value", "many", "size", "word"]) (c.def_ 8 rfl) sc_is_instruction false rfl fun f cd A outer s H E hr hg => ?_
  have sc := sc_is_instruction
  have tk := @takes_b P w K mg base "is_instruction" (defScope s_is_instruction) f ["value", "many", "size", "word"] cd A outer s H E
  exact (ss_cons (ss_if (SW.st (sw_or (st_not (st_truth (se_isi (T := .tuple) (se_var (i := 0) rfl (vis_of rfl) rfl rfl) rfl h_isinstance rfl h_tuple rfl) (fun _ => rfl))) (sw_or (st_cmp (g_eq hr.units) (se_var (i := 0) rfl (vis_of rfl) rfl rfl) (se_tup sa_nil) (nomark _)) (sw_or1 (st_not (st_truth (se_isi (T := .str) (se_ix (se_var (i := 0) rfl (vis_of rfl) rfl rfl) se_int (fun _ _ => rfl)) rfl h_isinstance rfl h_str rfl) (fun _ => rfl))))))) (ss_cons (ss_ret se_bl) ss_nil) ss_nil) (ss_cons (ss_set sc.nd rfl (.inl rfl) (se_ix (se_var (i := 0) rfl (vis_of rfl) rfl rfl) se_int (fun _ _ => rfl)) rfl (.inl rfl)) (ss_cons (ss_if (st_cmp (g_in hr.units) (se_var (i := 3) rfl (vis_of rfl) rfl rfl) (se_tup (sa_cons se_str (sa_cons se_str sa_nil rfl) rfl)) rfl) (ss_cons (ss_ret (se_cmp (g_eq hr.units) (se_bltn c_len rfl h_len boot_len (sa_cons (se_var (i := 0) rfl (vis_of rfl) rfl rfl) sa_nil rfl) (by decide) (by decide) rfl rfl) se_int (nomark _))) ss_nil) ss_nil) (ss_cons (ss_if (st_cmp (g_in hr.units) (se_var (i := 3) rfl (vis_of rfl) rfl rfl) (se_glob rfl gm_WITH_SUMS gr_WITH_SUMS rfl gk_WITH_SUMS) rfl) (ss_cons (ss_ret (se_and (se_cmp (g_eq hr.units) (se_bltn c_len rfl h_len boot_len (sa_cons (se_var (i := 0) rfl (vis_of rfl) rfl rfl) sa_nil rfl) (by decide) (by decide) rfl rfl) se_int (nomark _)) (se_and (se_call (ps := ["value", "many"]) ⟨G_is_below, m_is_below, D_is_below.kp⟩ (hr.mono (by first | decide | omega)) hg tk (bd_plain D_is_below fun _ _ _ _ _ _ us hl => match us, hl with | [_, _], _ => rfl) rfl (sa_cons (se_ix (se_var (i := 0) rfl (vis_of rfl) rfl rfl) se_int (fun _ _ => rfl)) (sa_cons (se_var (i := 2) rfl (vis_of rfl) rfl rfl) sa_nil rfl) rfl) rfl rfl rfl) (se_one (se_call (ps := ["value", "many"]) ⟨G_are_sums, m_are_sums, D_are_sums.kp⟩ (hr.mono (by first | decide | omega)) hg tk (bd_plain D_are_sums fun _ _ _ _ _ _ us hl => match us, hl with | [_, _], _ => rfl) rfl (sa_cons (se_ix (se_var (i := 0) rfl (vis_of rfl) rfl rfl) se_int (fun _ _ => rfl)) (sa_cons (se_var (i := 1) rfl (vis_of rfl) rfl rfl) sa_nil rfl) rfl) rfl rfl rfl))))) ss_nil) ss_nil) (ss_cons (ss_if (st_cmp (g_eq hr.units) (se_var (i := 3) rfl (vis_of rfl) rfl rfl) se_str (nomark _)) (ss_cons (ss_ret (se_and (se_cmp (g_eq hr.units) (se_bltn c_len rfl h_len boot_len (sa_cons (se_var (i := 0) rfl (vis_of rfl) rfl rfl) sa_nil rfl) (by decide) (by decide) rfl rfl) se_int (nomark _)) (se_and (se_call (ps := ["value", "many"]) ⟨G_is_below, m_is_below, D_is_below.kp⟩ (hr.mono (by first | decide | omega)) hg tk (bd_plain D_is_below fun _ _ _ _ _ _ us hl => match us, hl with | [_, _], _ => rfl) rfl (sa_cons (se_ix (se_var (i := 0) rfl (vis_of rfl) rfl rfl) se_int (fun _ _ => rfl)) (sa_cons (se_var (i := 1) rfl (vis_of rfl) rfl rfl) sa_nil rfl) rfl) rfl rfl rfl) (se_one (se_call (ps := ["value", "many"]) ⟨G_is_sum_of, m_is_sum_of, D_is_sum_of.kp⟩ (hr.mono (by first | decide | omega)) hg tk (bd_plain D_is_sum_of fun _ _ _ _ _ _ us hl => match us, hl with | [_, _], _ => rfl) rfl (sa_cons (se_ix (se_var (i := 0) rfl (vis_of rfl) rfl rfl) se_int (fun _ _ => rfl)) (sa_cons (se_var (i := 1) rfl (vis_of rfl) rfl rfl) sa_nil rfl) rfl) rfl rfl rfl))))) ss_nil) ss_nil) (ss_cons (ss_if (st_cmp (g_ne hr.units) (se_bltn c_len rfl h_len boot_len (sa_cons (se_var (i := 0) rfl (vis_of rfl) rfl rfl) sa_nil rfl) (by decide) (by decide) rfl rfl) se_int (nomark _)) (ss_cons (ss_ret se_bl) ss_nil) ss_nil) (ss_cons (ss_if (st_cmp (g_eq hr.units) (se_var (i := 3) rfl (vis_of rfl) rfl rfl) se_str (nomark _)) (ss_cons (ss_ret (se_call (ps := ["value", "many"]) ⟨G_is_below, m_is_below, D_is_below.kp⟩ (hr.mono (by first | decide | omega)) hg tk (bd_plain D_is_below fun _ _ _ _ _ _ us hl => match us, hl with | [_, _], _ => rfl) rfl (sa_cons (se_ix (se_var (i := 0) rfl (vis_of rfl) rfl rfl) se_int (fun _ _ => rfl)) (sa_cons (se_bin g_add (se_glob rfl gm_MOST_MARK gr_MOST_MARK rfl gk_MOST_MARK) se_int) sa_nil rfl) rfl) rfl rfl rfl)) ss_nil) ss_nil) (ss_cons (ss_if (st_cmp (g_eq hr.units) (se_var (i := 3) rfl (vis_of rfl) rfl rfl) se_str (nomark _)) (ss_cons (ss_ret (se_or (se_cmp g_is (se_ix (se_var (i := 0) rfl (vis_of rfl) rfl rfl) se_int (fun _ _ => rfl)) se_non (nomark _)) (se_one (se_call (ps := ["value", "many"]) ⟨G_is_below, m_is_below, D_is_below.kp⟩ (hr.mono (by first | decide | omega)) hg tk (bd_plain D_is_below fun _ _ _ _ _ _ us hl => match us, hl with | [_, _], _ => rfl) rfl (sa_cons (se_ix (se_var (i := 0) rfl (vis_of rfl) rfl rfl) se_int (fun _ _ => rfl)) (sa_cons (se_var (i := 1) rfl (vis_of rfl) rfl rfl) sa_nil rfl) rfl) rfl rfl rfl)))) ss_nil) ss_nil) (ss_cons (ss_if (st_cmp (g_eq hr.units) (se_var (i := 3) rfl (vis_of rfl) rfl rfl) se_str (nomark _)) (ss_cons (ss_ret (se_call (ps := ["value", "many"]) ⟨G_is_sum_of, m_is_sum_of, D_is_sum_of.kp⟩ (hr.mono (by first | decide | omega)) hg tk (bd_plain D_is_sum_of fun _ _ _ _ _ _ us hl => match us, hl with | [_, _], _ => rfl) rfl (sa_cons (se_ix (se_var (i := 0) rfl (vis_of rfl) rfl rfl) se_int (fun _ _ => rfl)) (sa_cons (se_var (i := 1) rfl (vis_of rfl) rfl rfl) sa_nil rfl) rfl) rfl rfl rfl)) ss_nil) ss_nil) (ss_cons (ss_ret (se_and (se_cmp (g_in hr.units) (se_var (i := 3) rfl (vis_of rfl) rfl rfl) (se_glob rfl gm_TO_ALONE gr_TO_ALONE rfl gk_TO_ALONE) rfl) (se_one (se_call (ps := ["value", "many"]) ⟨G_is_below, m_is_below, D_is_below.kp⟩ (hr.mono (by first | decide | omega)) hg tk (bd_plain D_is_below fun _ _ _ _ _ _ us hl => match us, hl with | [_, _], _ => rfl) rfl (sa_cons (se_ix (se_var (i := 0) rfl (vis_of rfl) rfl rfl) se_int (fun _ _ => rfl)) (sa_cons (se_var (i := 2) rfl (vis_of rfl) rfl rfl) sa_nil rfl) rfl) rfl rfl rfl)))) ss_nil))))))))))
theorem sc_is_line : FnScope ["value", "many", "instructions", "one"] ["value"] (defScope s_is_line) := ⟨rfl, rfl, rfl, by decide +kernel, rfl, by decide +kernel, by decide +kernel⟩
theorem d_is_line (c : Fx K mg base) : DefX P w K mg base 6 "is_line" s_is_line ["value"] F_is_line := by
  obtain ⟨f_is_below, fd_is_below, D_is_below, m_is_below, G_is_below⟩ := d_is_below c
  obtain ⟨f_is_tuple_of, fd_is_tuple_of, D_is_tuple_of, m_is_tuple_of, G_is_tuple_of⟩ := d_is_tuple_of c
  obtain ⟨f_is_instruction, fd_is_instruction, D_is_instruction, m_is_instruction, G_is_instruction⟩ := d_is_instruction c
  obtain ⟨_, _, gm_MOST_SLOTS, gr_MOST_SLOTS, gk_MOST_SLOTS⟩ := c.con 3 rfl
  obtain ⟨_, _, gm_MOST_INSTRUCTIONS, gr_MOST_INSTRUCTIONS, gk_MOST_INSTRUCTIONS⟩ := c.con 1 rfl
  obtain ⟨_, _, gm_ENDS, gr_ENDS, gk_ENDS⟩ := c.con 5 rfl
  have h_len := c.free 0 rfl
  have h_isinstance := c.free 10 rfl
  have h_tuple := c.free 8 rfl
  have h_all := c.free 14 rfl
  refine DefX.mk (k := 5) (N := ["value", "many", "instructions", "one"]) (c.def_ 9 rfl) sc_is_line false rfl fun f cd A outer s H E hr hg => ?_
  have sc := sc_is_line
  have tk := @takes_b P w K mg base "is_line" (defScope s_is_line) f ["value", "many", "instructions", "one"] cd A outer s H E
  exact (ss_cons (ss_if (SW.st (sw_or (st_not (st_truth (se_call (ps := ["value", "many"]) ⟨G_is_tuple_of, m_is_tuple_of, D_is_tuple_of.kp⟩ (hr.mono (by first | decide | omega)) hg tk (bd_plain D_is_tuple_of fun _ _ _ _ _ _ us hl => match us, hl with | [_, _], _ => rfl) rfl (sa_cons (se_var (i := 0) rfl (vis_of rfl) rfl rfl) (sa_cons se_int sa_nil rfl) rfl) rfl rfl rfl) (fun _ => rfl))) (sw_or (st_cmp (g_ne hr.units) (se_ix (se_var (i := 0) rfl (vis_of rfl) rfl rfl) se_int (fun _ _ => rfl)) se_str (nomark _)) (sw_or1 (st_not (st_truth (se_call (ps := ["value", "many"]) ⟨G_is_below, m_is_below, D_is_below.kp⟩ (hr.mono (by first | decide | omega)) hg tk (bd_plain D_is_below fun _ _ _ _ _ _ us hl => match us, hl with | [_, _], _ => rfl) rfl (sa_cons (se_ix (se_var (i := 0) rfl (vis_of rfl) rfl rfl) se_int (fun _ _ => rfl)) (sa_cons (se_bin g_add (se_glob rfl gm_MOST_SLOTS gr_MOST_SLOTS rfl gk_MOST_SLOTS) se_int) sa_nil rfl) rfl) rfl rfl rfl) (fun _ => rfl))))))) (ss_cons (ss_ret se_bl) ss_nil) ss_nil) (ss_cons (ss_asg (se_tup (sa_cons (se_ix (se_var (i := 0) rfl (vis_of rfl) rfl rfl) se_int (fun _ _ => rfl)) (sa_cons (se_ix (se_var (i := 0) rfl (vis_of rfl) rfl rfl) se_int (fun _ _ => rfl)) sa_nil rfl) rfl)) (st_tup (n := 2) rfl (st2_cons (st_name sc.nd rfl (.inr rfl) (.inl rfl)) (st2_cons (st_name sc.nd rfl (.inr rfl) (.inl rfl)) st2_nil rfl) rfl) rfl rfl rfl) rfl rfl rfl) (ss_cons (ss_if (SW.st (sw_or (st_not (st_truth (se_isi (T := .tuple) (se_var (i := 2) rfl (vis_of rfl) rfl rfl) rfl h_isinstance rfl h_tuple rfl) (fun _ => rfl))) (sw_or1 (st_not (st_chain g_le g_le se_int (se_bltn c_len rfl h_len boot_len (sa_cons (se_var (i := 2) rfl (vis_of rfl) rfl rfl) sa_nil rfl) (by decide) (by decide) rfl rfl) (se_glob rfl gm_MOST_INSTRUCTIONS gr_MOST_INSTRUCTIONS rfl gk_MOST_INSTRUCTIONS) rfl))))) (ss_cons (ss_ret se_bl) ss_nil) ss_nil) (ss_cons (ss_if (st_not (st_truth (se_bltn (c_all rfl) rfl h_all boot_all (sa_cons (se_lc (own := [(("one" : Str), 3)]) rfl sc.nd (by exact (si_seq (se_var (i := 2) rfl (vis_of rfl) rfl rfl))) (blkOk_by (N := ["value", "many", "instructions", "one"]) (sc := defScope s_is_line) (by decide +kernel)) (fun _ _ _ _ _ => (sv_name sc.nd rfl (.inl rfl) (.inr rfl) (by decide))) (fun _ _ _ _ _ => sts_nil) (fun _ _ _ _ _ => (by exact (se_call (ps := ["value", "many", "size"]) ⟨G_is_instruction, m_is_instruction, D_is_instruction.kp⟩ (hr.mono (by first | decide | omega)) hg takes0 (bd_plain D_is_instruction fun _ _ _ _ _ _ us hl => match us, hl with | [_, _, _], _ => rfl) rfl (sa_cons (se_var (i := 3) rfl (vis_of rfl) rfl rfl) (sa_cons (se_var (i := 1) rfl (vis_of rfl) rfl rfl) (sa_cons (by exact (se_bltn c_len rfl h_len boot_len (sa_cons (se_var (i := 2) rfl (vis_of rfl) rfl rfl) sa_nil rfl) (by decide) (by decide) rfl rfl)) sa_nil rfl) rfl) rfl) rfl rfl rfl))) (fun _ => rfl)) sa_nil rfl) (by decide) (by decide) rfl rfl) (fun _ => rfl))) (ss_cons (ss_ret se_bl) ss_nil) ss_nil) (ss_cons (ss_ret (se_cmp (g_in hr.units) (se_ix (se_ix (se_var (i := 2) rfl (vis_of rfl) rfl rfl) (se_neg se_int) (fun _ _ => rfl)) se_int (fun _ _ => rfl)) (se_glob rfl gm_ENDS gr_ENDS rfl gk_ENDS) rfl)) ss_nil)))))
theorem sc_want_line : FnScope ["value"] ["value"] (defScope s_want_line) := ⟨rfl, rfl, rfl, by decide +kernel, rfl, by decide +kernel, by decide +kernel⟩
theorem d_want_line (c : Fx K mg base) : DefX P w K mg base 7 "want_line" s_want_line ["value"] F_want_line := by
  obtain ⟨f_is_line, fd_is_line, D_is_line, m_is_line, G_is_line⟩ := d_is_line c
  refine DefX.mk (k := 6) (N := ["value"]) (c.def_ 10 rfl) sc_want_line false rfl fun f cd A outer s H E hr hg => ?_
  have sc := sc_want_line
  have tk := @takes_b P w K mg base "want_line" (defScope s_want_line) f ["value"] cd A outer s H E
  exact (ss_cons (ss_if (st_not (st_truth (se_call (ps := ["value"]) ⟨G_is_line, m_is_line, D_is_line.kp⟩ (hr.mono (by first | decide | omega)) hg tk (bd_plain D_is_line fun _ _ _ _ _ _ us hl => match us, hl with | [_], _ => rfl) rfl (sa_cons (se_var (i := 0) rfl (vis_of rfl) rfl rfl) sa_nil rfl) rfl rfl rfl) (fun _ => rfl))) (ss_cons ss_never ss_nil) ss_nil) (ss_cons (ss_ret (se_var (i := 0) rfl (vis_of rfl) rfl rfl)) ss_nil))
theorem sc_want_size : FnScope ["line"] ["line"] (defScope s_want_size) := ⟨rfl, rfl, rfl, by decide +kernel, rfl, by decide +kernel, by decide +kernel⟩
theorem d_want_size (c : Fx K mg base) : DefX P w K mg base 9 "want_size" s_want_size ["line"] F_want_size := by
  obtain ⟨f_longs_by, fd_longs_by, D_longs_by, m_longs_by, G_longs_by⟩ := d_longs_by c
  obtain ⟨_, _, gm_MOST_BYTES, gr_MOST_BYTES, gk_MOST_BYTES⟩ := c.con 10 rfl
  refine DefX.mk (k := 8) (N := ["line"]) (c.def_ 22 rfl) sc_want_size false rfl fun f cd A outer s H E hr hg => ?_
  have sc := sc_want_size
  have tk := @takes_b P w K mg base "want_size" (defScope s_want_size) f ["line"] cd A outer s H E
  exact (ss_cons (ss_if (st_cmp g_gt (se_ix (se_ix (se_call (ps := ["line"]) ⟨G_longs_by, m_longs_by, D_longs_by.kp⟩ (hr.mono (by first | decide | omega)) hg tk (bd_plain D_longs_by fun _ _ _ _ _ _ us hl => match us, hl with | [_], _ => rfl) rfl (sa_cons (se_var (i := 0) rfl (vis_of rfl) rfl rfl) sa_nil rfl) rfl rfl rfl) se_int (fun _ _ => rfl)) (se_neg se_int) (fun _ _ => rfl)) (se_glob rfl gm_MOST_BYTES gr_MOST_BYTES rfl gk_MOST_BYTES) (nomark _)) (ss_cons ss_never ss_nil) ss_nil) ss_nil)
theorem sc_code_of_line : FnScope ["line"] ["line"] (defScope s_code_of_line) := ⟨rfl, rfl, rfl, by decide +kernel, rfl, by decide +kernel, by decide +kernel⟩
theorem d_code_of_line (c : Fx K mg base) : DefX P w K mg base 10 "code_of_line" s_code_of_line ["line"] F_code_of_line := by
  obtain ⟨f_want_size, fd_want_size, D_want_size, m_want_size, G_want_size⟩ := d_want_size c
  obtain ⟨f_want_line, fd_want_line, D_want_line, m_want_line, G_want_line⟩ := d_want_line c
  obtain ⟨f_made_by, fd_made_by, D_made_by, m_made_by, G_made_by⟩ := d_made_by c
  refine DefX.mk (k := 9) (N := ["line"]) (c.def_ 23 rfl) sc_code_of_line false rfl fun f cd A outer s H E hr hg => ?_
  have sc := sc_code_of_line
  have tk := @takes_b P w K mg base "code_of_line" (defScope s_code_of_line) f ["line"] cd A outer s H E
  exact (ss_cons (ss_expr (se_call (ps := ["line"]) ⟨G_want_size, m_want_size, D_want_size.kp⟩ (hr.mono (by first | decide | omega)) hg tk (bd_plain D_want_size fun _ _ _ _ _ _ us hl => match us, hl with | [_], _ => rfl) rfl (sa_cons (se_call (ps := ["value"]) ⟨G_want_line, m_want_line, D_want_line.kp⟩ (hr.mono (by first | decide | omega)) hg tk (bd_plain D_want_line fun _ _ _ _ _ _ us hl => match us, hl with | [_], _ => rfl) rfl (sa_cons (se_var (i := 0) rfl (vis_of rfl) rfl rfl) sa_nil rfl) rfl rfl rfl) sa_nil rfl) rfl rfl rfl) rfl) (ss_cons (ss_ret (se_ix (se_call (ps := ["line"]) ⟨G_made_by, m_made_by, D_made_by.kp⟩ (hr.mono (by first | decide | omega)) hg tk (bd_plain D_made_by fun _ _ _ _ _ _ us hl => match us, hl with | [_], _ => rfl) rfl (sa_cons (se_var (i := 0) rfl (vis_of rfl) rfl rfl) sa_nil rfl) rfl rfl rfl) se_int (fun _ _ => rfl))) ss_nil))
theorem sc_longs : FnScope ["line"] ["line"] (defScope s_longs) := ⟨rfl, rfl, rfl, by decide +kernel, rfl, by decide +kernel, by decide +kernel⟩
theorem d_longs (c : Fx K mg base) : DefX P w K mg base 10 "longs" s_longs ["line"] F_longs := by
  obtain ⟨f_want_size, fd_want_size, D_want_size, m_want_size, G_want_size⟩ := d_want_size c
  obtain ⟨f_want_line, fd_want_line, D_want_line, m_want_line, G_want_line⟩ := d_want_line c
  obtain ⟨f_longs_by, fd_longs_by, D_longs_by, m_longs_by, G_longs_by⟩ := d_longs_by c
  have h_tuple := c.free 8 rfl
  refine DefX.mk (k := 9) (N := ["line"]) (c.def_ 25 rfl) sc_longs false rfl fun f cd A outer s H E hr hg => ?_
  have sc := sc_longs
  have tk := @takes_b P w K mg base "longs" (defScope s_longs) f ["line"] cd A outer s H E
  exact (ss_cons (ss_expr (se_call (ps := ["line"]) ⟨G_want_size, m_want_size, D_want_size.kp⟩ (hr.mono (by first | decide | omega)) hg tk (bd_plain D_want_size fun _ _ _ _ _ _ us hl => match us, hl with | [_], _ => rfl) rfl (sa_cons (se_call (ps := ["value"]) ⟨G_want_line, m_want_line, D_want_line.kp⟩ (hr.mono (by first | decide | omega)) hg tk (bd_plain D_want_line fun _ _ _ _ _ _ us hl => match us, hl with | [_], _ => rfl) rfl (sa_cons (se_var (i := 0) rfl (vis_of rfl) rfl rfl) sa_nil rfl) rfl rfl rfl) sa_nil rfl) rfl rfl rfl) rfl) (ss_cons (ss_ret (se_btyp c_tuple rfl h_tuple boot_tuple (sa_cons (se_ix (se_call (ps := ["line"]) ⟨G_longs_by, m_longs_by, D_longs_by.kp⟩ (hr.mono (by first | decide | omega)) hg tk (bd_plain D_longs_by fun _ _ _ _ _ _ us hl => match us, hl with | [_], _ => rfl) rfl (sa_cons (se_var (i := 0) rfl (vis_of rfl) rfl rfl) sa_nil rfl) rfl rfl rfl) se_int (fun _ _ => rfl)) sa_nil rfl) (by decide) (by decide) rfl rfl)) ss_nil))
theorem sc_positions : FnScope ["line"] ["line"] (defScope s_positions) := ⟨rfl, rfl, rfl, by decide +kernel, rfl, by decide +kernel, by decide +kernel⟩
theorem d_positions (c : Fx K mg base) : DefX P w K mg base 10 "positions" s_positions ["line"] F_positions := by
  obtain ⟨f_want_size, fd_want_size, D_want_size, m_want_size, G_want_size⟩ := d_want_size c
  obtain ⟨f_want_line, fd_want_line, D_want_line, m_want_line, G_want_line⟩ := d_want_line c
  obtain ⟨f_longs_by, fd_longs_by, D_longs_by, m_longs_by, G_longs_by⟩ := d_longs_by c
  have h_tuple := c.free 8 rfl
  refine DefX.mk (k := 9) (N := ["line"]) (c.def_ 24 rfl) sc_positions false rfl fun f cd A outer s H E hr hg => ?_
  have sc := sc_positions
  have tk := @takes_b P w K mg base "positions" (defScope s_positions) f ["line"] cd A outer s H E
  exact (ss_cons (ss_expr (se_call (ps := ["line"]) ⟨G_want_size, m_want_size, D_want_size.kp⟩ (hr.mono (by first | decide | omega)) hg tk (bd_plain D_want_size fun _ _ _ _ _ _ us hl => match us, hl with | [_], _ => rfl) rfl (sa_cons (se_call (ps := ["value"]) ⟨G_want_line, m_want_line, D_want_line.kp⟩ (hr.mono (by first | decide | omega)) hg tk (bd_plain D_want_line fun _ _ _ _ _ _ us hl => match us, hl with | [_], _ => rfl) rfl (sa_cons (se_var (i := 0) rfl (vis_of rfl) rfl rfl) sa_nil rfl) rfl rfl rfl) sa_nil rfl) rfl rfl rfl) rfl) (ss_cons (ss_ret (se_btyp c_tuple rfl h_tuple boot_tuple (sa_cons (se_slc (se_ix (se_call (ps := ["line"]) ⟨G_longs_by, m_longs_by, D_longs_by.kp⟩ (hr.mono (by first | decide | omega)) hg tk (bd_plain D_longs_by fun _ _ _ _ _ _ us hl => match us, hl with | [_], _ => rfl) rfl (sa_cons (se_var (i := 0) rfl (vis_of rfl) rfl rfl) sa_nil rfl) rfl rfl rfl) se_int (fun _ _ => rfl)) so_none (so_some (se_neg se_int))) sa_nil rfl) (by decide) (by decide) rfl rfl)) ss_nil))
theorem sc_law_right : FnScope ["pot", "most", "line", "shown", "long_ones", "found", "places", "bad"] ["pot", "most"] (defScope s_law_right) := ⟨rfl, rfl, rfl, by decide +kernel, rfl, by decide +kernel, by decide +kernel⟩
theorem d_law_right (c : Fx K mg base) : DefX P w K mg base 16 "_law_right" s_law_right ["pot", "most"] F_law_right := by
  obtain ⟨f__law_line, fd__law_line, D__law_line, m__law_line, G__law_line⟩ := d_law_line c
  obtain ⟨f__law_least, fd__law_least, D__law_least, m__law_least, G__law_least⟩ := d_law_least c
  obtain ⟨f__law_packed, fd__law_packed, D__law_packed, m__law_packed, G__law_packed⟩ := d_law_packed c
  obtain ⟨f__law_same, fd__law_same, D__law_same, m__law_same, G__law_same⟩ := d_law_same c 6
  obtain ⟨f_code_of_line, fd_code_of_line, D_code_of_line, m_code_of_line, G_code_of_line⟩ := d_code_of_line c
  obtain ⟨f_positions, fd_positions, D_positions, m_positions, G_positions⟩ := d_positions c
  obtain ⟨f_longs, fd_longs, D_longs, m_longs, G_longs⟩ := d_longs c
  have h_repr := c.free 16 rfl
  have h_tuple := c.free 8 rfl
  refine DefX.mk (k := 15) (N := ["pot", "most", "line", "shown", "long_ones", "found", "places", "bad"]) (c.def_ 41 rfl) sc_law_right false rfl fun f cd A outer s H E hr hg => ?_
  have sc := sc_law_right
  have tk := @takes_b P w K mg base "_law_right" (defScope s_law_right) f ["pot", "most", "line", "shown", "long_ones", "found", "places", "bad"] cd A outer s H E
  exact (ss_cons (ss_set sc.nd rfl (.inl rfl) (se_call (ps := ["pot", "most"]) ⟨G__law_line, m__law_line, D__law_line.kp⟩ (hr.mono (by first | decide | omega)) hg tk (bd_plain D__law_line fun _ _ _ _ _ _ us hl => match us, hl with | [_, _], _ => rfl) rfl (sa_cons (se_var (i := 0) rfl (vis_of rfl) rfl rfl) (sa_cons (se_var (i := 1) rfl (vis_of rfl) rfl rfl) sa_nil rfl) rfl) rfl rfl rfl) rfl (.inl rfl)) (ss_cons (ss_par (i := 3) (j := 4) rfl sc.nd rfl rfl (by decide) rfl rfl (sa_cons (se_bltn (c_repr hg hr.units) rfl h_repr boot_repr (sa_cons (se_var (i := 2) rfl (vis_of rfl) rfl rfl) sa_nil rfl) (by decide) (by decide) rfl rfl) (sa_cons (se_call (ps := ["line"]) ⟨G__law_least, m__law_least, D__law_least.kp⟩ (hr.mono (by first | decide | omega)) hg tk (bd_plain D__law_least fun _ _ _ _ _ _ us hl => match us, hl with | [_], _ => rfl) rfl (sa_cons (se_var (i := 2) rfl (vis_of rfl) rfl rfl) sa_nil rfl) rfl rfl rfl) sa_nil rfl) rfl) rfl rfl) (ss_cons (ss_asg (se_call (ps := ["line", "far"]) ⟨G__law_packed, m__law_packed, D__law_packed.kp⟩ (hr.mono (by first | decide | omega)) hg tk (bd_plain D__law_packed fun _ _ _ _ _ _ us hl => match us, hl with | [_, _], _ => rfl) rfl (sa_cons (se_var (i := 2) rfl (vis_of rfl) rfl rfl) (sa_cons (se_var (i := 4) rfl (vis_of rfl) rfl rfl) sa_nil rfl) rfl) rfl rfl rfl) (st_tup (n := 3) rfl (st2_cons (st_name sc.nd rfl (.inl rfl) (.inl rfl)) (st2_cons (st_name sc.nd rfl (.inl rfl) (.inl rfl)) (st2_cons (st_name sc.nd rfl (.inl rfl) (.inl rfl)) st2_nil rfl) rfl) rfl) rfl rfl rfl) rfl rfl rfl) (ss_cons (ss_if (SW.st (sw_or (st_not (st_truth (se_call (ps := ["told", "due"]) ⟨G__law_same, m__law_same, D__law_same.kp⟩ (hr.mono (by first | decide | omega)) hg tk (bd_plain D__law_same fun _ _ _ _ _ _ us hl => match us, hl with | [_, _], _ => rfl) rfl (sa_cons (se_lst (sa_cons (se_call (ps := ["line"]) ⟨G_code_of_line, m_code_of_line, D_code_of_line.kp⟩ (hr.mono (by first | decide | omega)) hg tk (bd_plain D_code_of_line fun _ _ _ _ _ _ us hl => match us, hl with | [_], _ => rfl) rfl (sa_cons (se_var (i := 2) rfl (vis_of rfl) rfl rfl) sa_nil rfl) rfl rfl rfl) (sa_cons (se_callK0 (prm := [0]) (ps := ["line"]) ⟨G_code_of_line, m_code_of_line, D_code_of_line.kp⟩ (hr.mono (by first | decide | omega)) hg tk (bd_of (n := 0) (ks := [("line" : Str)]) (prm := [0]) D_code_of_line fun _ _ _ _ _ _ us ws h1 h2 => match us, ws, h1, h2 with | [], [_], _, _ => rfl) rfl (sk_cons (se_var (i := 2) rfl (vis_of rfl) rfl rfl) sk_nil) rfl rfl rfl rfl rfl (len_cons len_nil)) sa_nil rfl) rfl)) (sa_cons (se_lst (sa_cons (se_btyp c_tuple rfl h_tuple boot_tuple (sa_cons (se_var (i := 5) rfl (vis_of rfl) rfl rfl) sa_nil rfl) (by decide) (by decide) rfl rfl) (sa_cons (se_btyp c_tuple rfl h_tuple boot_tuple (sa_cons (se_var (i := 5) rfl (vis_of rfl) rfl rfl) sa_nil rfl) (by decide) (by decide) rfl rfl) sa_nil rfl) rfl)) sa_nil rfl) rfl) rfl rfl rfl) (fun _ => rfl))) (sw_or1 (st_cmp (g_ne hr.units) (se_var (i := 7) rfl (vis_of rfl) rfl rfl) (se_lst sa_nil) (nomark _))))) (ss_cons (ss_ret se_bl) ss_nil) ss_nil) (ss_cons (ss_if (st_not (st_truth (se_call (ps := ["told", "due"]) ⟨G__law_same, m__law_same, D__law_same.kp⟩ (hr.mono (by first | decide | omega)) hg tk (bd_plain D__law_same fun _ _ _ _ _ _ us hl => match us, hl with | [_, _], _ => rfl) rfl (sa_cons (se_lst (sa_cons (se_call (ps := ["line"]) ⟨G_positions, m_positions, D_positions.kp⟩ (hr.mono (by first | decide | omega)) hg tk (bd_plain D_positions fun _ _ _ _ _ _ us hl => match us, hl with | [_], _ => rfl) rfl (sa_cons (se_var (i := 2) rfl (vis_of rfl) rfl rfl) sa_nil rfl) rfl rfl rfl) (sa_cons (se_callK0 (prm := [0]) (ps := ["line"]) ⟨G_positions, m_positions, D_positions.kp⟩ (hr.mono (by first | decide | omega)) hg tk (bd_of (n := 0) (ks := [("line" : Str)]) (prm := [0]) D_positions fun _ _ _ _ _ _ us ws h1 h2 => match us, ws, h1, h2 with | [], [_], _, _ => rfl) rfl (sk_cons (se_var (i := 2) rfl (vis_of rfl) rfl rfl) sk_nil) rfl rfl rfl rfl rfl (len_cons len_nil)) sa_nil rfl) rfl)) (sa_cons (se_bin g_mul (se_lst (sa_cons (se_btyp c_tuple rfl h_tuple boot_tuple (sa_cons (se_slc (se_var (i := 6) rfl (vis_of rfl) rfl rfl) so_none (so_some (se_neg se_int))) sa_nil rfl) (by decide) (by decide) rfl rfl) sa_nil rfl)) se_int) sa_nil rfl) rfl) rfl rfl rfl) (fun _ => rfl))) (ss_cons (ss_ret se_bl) ss_nil) ss_nil) (ss_cons (ss_ret (se_and (se_call (ps := ["told", "due"]) ⟨G__law_same, m__law_same, D__law_same.kp⟩ (hr.mono (by first | decide | omega)) hg tk (bd_plain D__law_same fun _ _ _ _ _ _ us hl => match us, hl with | [_, _], _ => rfl) rfl (sa_cons (se_lst (sa_cons (se_call (ps := ["line"]) ⟨G_longs, m_longs, D_longs.kp⟩ (hr.mono (by first | decide | omega)) hg tk (bd_plain D_longs fun _ _ _ _ _ _ us hl => match us, hl with | [_], _ => rfl) rfl (sa_cons (se_var (i := 2) rfl (vis_of rfl) rfl rfl) sa_nil rfl) rfl rfl rfl) (sa_cons (se_callK0 (prm := [0]) (ps := ["line"]) ⟨G_longs, m_longs, D_longs.kp⟩ (hr.mono (by first | decide | omega)) hg tk (bd_of (n := 0) (ks := [("line" : Str)]) (prm := [0]) D_longs fun _ _ _ _ _ _ us ws h1 h2 => match us, ws, h1, h2 with | [], [_], _, _ => rfl) rfl (sk_cons (se_var (i := 2) rfl (vis_of rfl) rfl rfl) sk_nil) rfl rfl rfl rfl rfl (len_cons len_nil)) sa_nil rfl) rfl)) (sa_cons (se_bin g_mul (se_lst (sa_cons (se_btyp c_tuple rfl h_tuple boot_tuple (sa_cons (se_var (i := 4) rfl (vis_of rfl) rfl rfl) sa_nil rfl) (by decide) (by decide) rfl rfl) sa_nil rfl)) se_int) sa_nil rfl) rfl) rfl rfl rfl) (se_one (se_cmp (g_eq hr.units) (se_bltn (c_repr hg hr.units) rfl h_repr boot_repr (sa_cons (se_var (i := 2) rfl (vis_of rfl) rfl rfl) sa_nil rfl) (by decide) (by decide) rfl rfl) (se_var (i := 3) rfl (vis_of rfl) rfl rfl) (nomark _))))) ss_nil))))))
theorem sc_law : FnScope ["script", "k", "pot", "most"] ["script"] (defScope s_law) := ⟨rfl, rfl, rfl, by decide +kernel, rfl, by decide +kernel, by decide +kernel⟩
theorem d_law (c : Fx K mg base) : DefX P w K mg base 17 "law" s_law ["script"] F_law := by
  obtain ⟨f__law_pot, fd__law_pot, D__law_pot, m__law_pot, G__law_pot⟩ := d_law_pot c
  obtain ⟨f__law_right, fd__law_right, D__law_right, m__law_right, G__law_right⟩ := d_law_right c
  have h_len := c.free 0 rfl
  have h_min := c.free 9 rfl
  have h_max := c.free 2 rfl
  have h_range := c.free 5 rfl
  have h_all := c.free 14 rfl
  refine DefX.mk (k := 16) (N := ["script", "k", "pot", "most"]) (c.def_ 42 rfl) sc_law false rfl fun f cd A outer s H E hr hg => ?_
  have sc := sc_law
  have tk := @takes_b P w K mg base "law" (defScope s_law) f ["script", "k", "pot", "most"] cd A outer s H E
  exact (ss_cons (ss_for passes_b rfl (si_range1 rfl h_range (se_bltn (c_max rfl) rfl h_max boot_max (sa_cons se_int (sa_cons (se_bltn (c_min rfl) rfl h_min boot_min (sa_cons se_int (sa_cons (se_bltn c_len rfl h_len boot_len (sa_cons (se_var (i := 0) rfl (vis_of rfl) rfl rfl) sa_nil rfl) (by decide) (by decide) rfl rfl) sa_nil rfl) rfl) (by decide) (by decide) rfl rfl) sa_nil rfl) rfl) (by decide) (by decide) rfl rfl) rfl) (st_name sc.nd rfl (.inl rfl) (.inl rfl)) (ss_cons (ss_set sc.nd rfl (.inr rfl) (se_call (ps := ["script", "k"]) ⟨G__law_pot, m__law_pot, D__law_pot.kp⟩ (hr.mono (by first | decide | omega)) hg tk (bd_plain D__law_pot fun _ _ _ _ _ _ us hl => match us, hl with | [_, _], _ => rfl) rfl (sa_cons (se_var (i := 0) rfl (vis_of rfl) rfl rfl) (sa_cons (se_var (i := 1) rfl (vis_of rfl) rfl rfl) sa_nil rfl) rfl) rfl rfl rfl) rfl (.inl rfl)) (ss_cons (ss_if (st_not (st_truth (se_bltn (c_all rfl) rfl h_all boot_all (sa_cons (se_lc (own := [(("most" : Str), 3)]) rfl sc.nd (by exact (si_seq (se_tup (sa_cons se_int (sa_cons se_int (sa_cons se_int sa_nil rfl) rfl) rfl)))) (blkOk_by (N := ["script", "k", "pot", "most"]) (sc := defScope s_law) (by decide +kernel)) (fun _ _ _ _ _ => (sv_name sc.nd rfl (.inl rfl) (.inr rfl) (by decide))) (fun _ _ _ _ _ => sts_nil) (fun _ _ _ _ _ => (by exact (se_call (ps := ["pot", "most"]) ⟨G__law_right, m__law_right, D__law_right.kp⟩ (hr.mono (by first | decide | omega)) hg takes0 (bd_plain D__law_right fun _ _ _ _ _ _ us hl => match us, hl with | [_, _], _ => rfl) rfl (sa_cons (se_var (i := 2) rfl (vis_of rfl) rfl rfl) (sa_cons (se_var (i := 3) rfl (vis_of rfl) rfl rfl) sa_nil rfl) rfl) rfl rfl rfl))) (fun _ => rfl)) sa_nil rfl) (by decide) (by decide) rfl rfl) (fun _ => rfl))) (ss_cons (ss_ret se_bl) ss_nil) ss_nil) ss_nil)) (fun _ => rfl)) (ss_cons (ss_ret se_bl) ss_nil))
end
end
end DL.k63

set_option Elab.async false
set_option linter.all false
set_option maxRecDepth 100000
set_option maxHeartbeats 4000000
namespace DL.k63
open PySem PySem.Spec PyProof.Rows L2 DL
/-! ### the drawing -/
def Pot (l : List PD) : Prop := ∃ a b : Int, l = [.int a, .int b] ∧ 0 ≤ b ∧ b < 2147483600
theorem draw_ok {l : List PD} {m : Int} (hl : Pot l) (hm : 0 < m) (hm2 : m < 1073741824) (A T : Store) :
    ∃ r l', F_law_draw [.ref A.length, .dat (.int m)] (A ++ l :: T) = .ok (.dat (.int r)) (A ++ l' :: T) ∧ 0 ≤ r ∧ r < m ∧ Pot l' := by
  obtain ⟨a, b, rfl, hb, hb2⟩ := hl
  by_cases ha : 0 < a
  · refine ⟨a % m, [.int (a / m), .int b], ?_, Int.emod_nonneg _ (by omega), Int.emod_lt_of_pos _ hm, _, _, rfl, hb, hb2⟩
    refine fnM_dat ?_ (by simp)
    simp [b_law_draw, ha, hm, hm2, divmodP, seqS, asgS, ifS, boolT, op2, retS, retN, dropS, varE, conE, blt, bltC, consA, nilA, tupT, subT, nmT, tsT, nxS, R.bind, R.bindS, opt, derefD, derefs, dats, datD, subV, callE, callK, pick, andT, orT, notT, truT, trueD, truP, andE, orE, notE, iteE, isiE, isiP, tupE, lstE, celE, chainE, negE, slcE, someO, noO, cutP, mtE, mnE, parS, seqI, srcD, rngI1, rngI2, rg1, rg2, lrgE, lrgC, trgE, forS, ixP, atI, ixN, gtP, ltP, leP, geP, addP, subP, absP, maxP, minP, intP, boolP, lenP, tupleP, listP, listC]
  · have c1 : (0 : Int) ≤ (b * 40692 + 40853) % 2147483563 := Int.emod_nonneg _ (by omega)
    have c2 : (b * 40692 + 40853) % 2147483563 < 2147483563 := Int.emod_lt_of_pos _ (by omega)
    have m1 : mulP (.int b) (.int 40692) = some (.int (b * 40692)) := mulP_small (by omega) (by omega)
    have m2 : mulP (.int ((b * 40692 + 40853) % 2147483563)) (.int ((b * 40692 + 40853) % 2147483563)) = some (.int ((b * 40692 + 40853) % 2147483563 * ((b * 40692 + 40853) % 2147483563))) := mulP_small (by omega) (by omega)
    have m3 : ∀ i : Int, modP (.int i) (.int 2147483563) = some (.int (i % 2147483563)) := fun i => modP_pos (by omega)
    have m4 : ∀ i : Int, modP (.int i) (.int 2147483549) = some (.int (i % 2147483549)) := fun i => modP_pos (by omega)
    have m5 : ∀ i : Int, fdivP (.int i) (.int 37) = some (.int (i / 37)) := fun i => fdivP_pos (by omega) (by decide)
    have m6 : ∀ i : Int, modP (.int i) (.int m) = some (.int (i % m)) := fun i => modP_pos (by omega)
    refine ⟨(b * 40692 + 40853) % 2147483563 * ((b * 40692 + 40853) % 2147483563) % 2147483549 / 37 % m, [.int a, .int ((b * 40692 + 40853) % 2147483563)], ?_, Int.emod_nonneg _ (by omega), Int.emod_lt_of_pos _ hm, _, _, rfl, c1, by omega⟩
    refine fnM_dat ?_ (by simp)
    simp [b_law_draw, ha, m1, m2, m3, m4, m5, m6, seqS, asgS, ifS, boolT, op2, retS, retN, dropS, varE, conE, blt, bltC, consA, nilA, tupT, subT, nmT, tsT, nxS, R.bind, R.bindS, opt, derefD, derefs, dats, datD, subV, callE, callK, pick, andT, orT, notT, truT, trueD, truP, andE, orE, notE, iteE, isiE, isiP, tupE, lstE, celE, chainE, negE, slcE, someO, noO, cutP, mtE, mnE, parS, seqI, srcD, rngI1, rngI2, rg1, rg2, lrgE, lrgC, trgE, forS, ixP, atI, ixN, gtP, ltP, leP, geP, addP, subP, absP, maxP, minP, intP, boolP, lenP, tupleP, listP, listC]
theorem pick_ok {l : List PD} {ds : List PD} (hl : Pot l) (A T : Store) (h0 : 0 < ds.length) (h1 : ds.length < 1000000) :
    ∃ v l', F_law_pick [.ref A.length, .dat (.list ds)] (A ++ l :: T) = .ok (.dat v) (A ++ l' :: T) ∧ v ∈ ds ∧ Pot l' := by
  obtain ⟨r, l', e, r0, r1, hl'⟩ := draw_ok (m := ds.length) hl (by omega) (by omega) A T
  have hr : r.toNat < ds.length := by omega
  refine ⟨ds[r.toNat], l', ?_, List.getElem_mem hr, hl'⟩
  refine fnM_dat ?_ (by simp)
  have g : ixP (.list ds) (.int r) = some ds[r.toNat] := by
    simp only [ixP, atI, ixN]
    rw [if_pos r0, if_pos (by omega)]
    simp [hr]
  simp [b_law_pick, e, g, seqS, retS, op2, varE, callE, consA, blt, nilA, R.bind, R.bindS, derefs, derefD, opt, lenP]
def numB : PD → Bool
  | .int _ => true
  | _ => false
def isB : PD → Bool
  | .bool _ => true
  | _ => false
def cntB : PD → Bool
  | .int i => decide (0 ≤ i)
  | _ => false
def amtB (m : Int) : PD → Bool
  | .int i => decide (-m ≤ i) && decide (i ≤ m)
  | _ => false
def tupB (k : Int) : PD → Bool
  | .tuple ds => (ds.length : Int) == k
  | _ => false
theorem integer_ok (v : PD) (S : Store) : F_is_integer [.dat v] S = .ok (.dat (.bool (numB v))) S := by
  refine fnM_dat ?_ rfl
  cases v <;> simp [b_is_integer, numB, seqS, asgS, ifS, boolT, op2, retS, retN, dropS, varE, conE, blt, bltC, consA, nilA, tupT, subT, nmT, tsT, nxS, R.bind, R.bindS, opt, derefD, derefs, dats, datD, subV, callE, callK, pick, andT, orT, notT, truT, trueD, truP, andE, orE, notE, iteE, isiE, isiP, tupE, lstE, celE, chainE, negE, slcE, someO, noO, cutP, mtE, mnE, parS, seqI, srcD, rngI1, rngI2, rg1, rg2, lrgE, lrgC, trgE, forS, ixP, atI, ixN, gtP, ltP, leP, geP, addP, subP, absP, maxP, minP, intP, boolP, lenP, tupleP, listP, listC]
theorem count_ok (v : PD) (S : Store) : F_is_count [.dat v] S = .ok (.dat (.bool (cntB v))) S := by
  refine fnM_dat ?_ rfl
  have h := integer_ok v S
  cases v <;> simp [b_is_count, numB, cntB, h, seqS, asgS, ifS, boolT, op2, retS, retN, dropS, varE, conE, blt, bltC, consA, nilA, tupT, subT, nmT, tsT, nxS, R.bind, R.bindS, opt, derefD, derefs, dats, datD, subV, callE, callK, pick, andT, orT, notT, truT, trueD, truP, andE, orE, notE, iteE, isiE, isiP, tupE, lstE, celE, chainE, negE, slcE, someO, noO, cutP, mtE, mnE, parS, seqI, srcD, rngI1, rngI2, rg1, rg2, lrgE, lrgC, trgE, forS, ixP, atI, ixN, gtP, ltP, leP, geP, addP, subP, absP, maxP, minP, intP, boolP, lenP, tupleP, listP, listC]
theorem amount_ok (v : PD) (m : Int) (S : Store) : F_is_amount [.dat v, .dat (.int m)] S = .ok (.dat (.bool (amtB m v))) S := by
  refine fnM_dat ?_ rfl
  have h := integer_ok v S
  cases v with
  | int i =>
    by_cases c : -m ≤ i
    · simp [b_is_amount, numB, amtB, h, c, seqS, asgS, ifS, boolT, op2, retS, retN, dropS, varE, conE, blt, bltC, consA, nilA, tupT, subT, nmT, tsT, nxS, R.bind, R.bindS, opt, derefD, derefs, dats, datD, subV, callE, callK, pick, andT, orT, notT, truT, trueD, truP, andE, orE, notE, iteE, isiE, isiP, tupE, lstE, celE, chainE, negE, slcE, someO, noO, cutP, mtE, mnE, parS, seqI, srcD, rngI1, rngI2, rg1, rg2, lrgE, lrgC, trgE, forS, ixP, atI, ixN, gtP, ltP, leP, geP, addP, subP, absP, maxP, minP, intP, boolP, lenP, tupleP, listP, listC]
    · simp [b_is_amount, numB, amtB, h, c, seqS, asgS, ifS, boolT, op2, retS, retN, dropS, varE, conE, blt, bltC, consA, nilA, tupT, subT, nmT, tsT, nxS, R.bind, R.bindS, opt, derefD, derefs, dats, datD, subV, callE, callK, pick, andT, orT, notT, truT, trueD, truP, andE, orE, notE, iteE, isiE, isiP, tupE, lstE, celE, chainE, negE, slcE, someO, noO, cutP, mtE, mnE, parS, seqI, srcD, rngI1, rngI2, rg1, rg2, lrgE, lrgC, trgE, forS, ixP, atI, ixN, gtP, ltP, leP, geP, addP, subP, absP, maxP, minP, intP, boolP, lenP, tupleP, listP, listC]
  | _ => simp [b_is_amount, numB, amtB, h, seqS, asgS, ifS, boolT, op2, retS, retN, dropS, varE, conE, blt, bltC, consA, nilA, tupT, subT, nmT, tsT, nxS, R.bind, R.bindS, opt, derefD, derefs, dats, datD, subV, callE, callK, pick, andT, orT, notT, truT, trueD, truP, andE, orE, notE, iteE, isiE, isiP, tupE, lstE, celE, chainE, negE, slcE, someO, noO, cutP, mtE, mnE, parS, seqI, srcD, rngI1, rngI2, rg1, rg2, lrgE, lrgC, trgE, forS, ixP, atI, ixN, gtP, ltP, leP, geP, addP, subP, absP, maxP, minP, intP, boolP, lenP, tupleP, listP, listC]
theorem tupof_ok (v : PD) (k : Int) (S : Store) : F_is_tuple_of [.dat v, .dat (.int k)] S = .ok (.dat (.bool (tupB k v))) S := by
  refine fnM_dat ?_ rfl
  cases v <;> simp [b_is_tuple_of, tupB, eqP_int, seqS, asgS, ifS, boolT, op2, retS, retN, dropS, varE, conE, blt, bltC, consA, nilA, tupT, subT, nmT, tsT, nxS, R.bind, R.bindS, opt, derefD, derefs, dats, datD, subV, callE, callK, pick, andT, orT, notT, truT, trueD, truP, andE, orE, notE, iteE, isiE, isiP, tupE, lstE, celE, chainE, negE, slcE, someO, noO, cutP, mtE, mnE, parS, seqI, srcD, rngI1, rngI2, rg1, rg2, lrgE, lrgC, trgE, forS, ixP, atI, ixN, gtP, ltP, leP, geP, addP, subP, absP, maxP, minP, intP, boolP, lenP, tupleP, listP, listC]
/-! sums -/
def tmB (many : Int) : PD → Bool
  | .tuple [.int a, .int b] => decide (0 ≤ a) && decide (a < many) && (decide (-1000000000 ≤ b) && decide (b ≤ 1000000000)) && !(b == 0)
  | _ => false
def fstI : PD → Int
  | .tuple [.int a, _] => a
  | _ => 0
def rise : List Int → Bool
  | a :: b :: r => decide (a < b) && rise (b :: r)
  | _ => true
def smB (many : Int) : PD → Bool
  | .tuple [.int c, .tuple ts] => amtB 1000000000 (.int c) && (ts.all (tmB many) && rise (ts.map fstI))
  | _ => false
theorem tmB_ex {many : Int} {p : PD} (h : tmB many p = true) : ∃ a b : Int, p = .tuple [.int a, .int b] ∧ 0 ≤ a ∧ a < many := by
  unfold tmB at h
  split at h
  · rename_i a b
    simp only [Bool.and_eq_true, decide_eq_true_eq] at h
    exact ⟨a, b, rfl, h.1.1.1, h.1.1.2⟩
  · cases h
theorem body_ok (v x t : PD) (dx : Option D) (many : Int) (S : Store) : lb_is_sum_of_0 [some (.dat v), some (.dat (.int many)), some (.dat t)] S = if tmB many t = true then .ok (.nx [some (.dat v), some (.dat (.int many)), some (.dat t)]) S else .ok (.ret (.dat (.bool false))) S := by
  cases t with
  | tuple ds =>
    match ds with
    | [] => simp [lb_is_sum_of_0, tupof_ok, tupB, tmB, seqS, asgS, ifS, boolT, op2, retS, retN, dropS, varE, conE, blt, bltC, consA, nilA, tupT, subT, nmT, tsT, nxS, R.bind, R.bindS, opt, derefD, derefs, dats, datD, subV, callE, callK, pick, andT, orT, notT, truT, trueD, truP, andE, orE, notE, iteE, isiE, isiP, tupE, lstE, celE, chainE, negE, slcE, someO, noO, cutP, mtE, mnE, parS, seqI, srcD, rngI1, rngI2, rg1, rg2, lrgE, lrgC, trgE, forS, ixP, atI, ixN, gtP, ltP, leP, geP, addP, subP, absP, maxP, minP, intP, boolP, lenP, tupleP, listP, listC]
    | [a] => simp [lb_is_sum_of_0, tupof_ok, tupB, tmB, seqS, asgS, ifS, boolT, op2, retS, retN, dropS, varE, conE, blt, bltC, consA, nilA, tupT, subT, nmT, tsT, nxS, R.bind, R.bindS, opt, derefD, derefs, dats, datD, subV, callE, callK, pick, andT, orT, notT, truT, trueD, truP, andE, orE, notE, iteE, isiE, isiP, tupE, lstE, celE, chainE, negE, slcE, someO, noO, cutP, mtE, mnE, parS, seqI, srcD, rngI1, rngI2, rg1, rg2, lrgE, lrgC, trgE, forS, ixP, atI, ixN, gtP, ltP, leP, geP, addP, subP, absP, maxP, minP, intP, boolP, lenP, tupleP, listP, listC]
    | a :: b :: c :: r =>
      have : ¬ ((r.length : Int) + 1 + 1 + 1 = 2) := by omega
      simp [lb_is_sum_of_0, tupof_ok, tupB, tmB, this, seqS, asgS, ifS, boolT, op2, retS, retN, dropS, varE, conE, blt, bltC, consA, nilA, tupT, subT, nmT, tsT, nxS, R.bind, R.bindS, opt, derefD, derefs, dats, datD, subV, callE, callK, pick, andT, orT, notT, truT, trueD, truP, andE, orE, notE, iteE, isiE, isiP, tupE, lstE, celE, chainE, negE, slcE, someO, noO, cutP, mtE, mnE, parS, seqI, srcD, rngI1, rngI2, rg1, rg2, lrgE, lrgC, trgE, forS, ixP, atI, ixN, gtP, ltP, leP, geP, addP, subP, absP, maxP, minP, intP, boolP, lenP, tupleP, listP, listC]
    | [a, b] =>
      cases a with
      | int a =>
        by_cases h1 : 0 ≤ a
        · by_cases h2 : many ≤ a
          · have h3 : ¬ a < many := by omega
            simp [lb_is_sum_of_0, tupof_ok, tupB, count_ok, cntB, tmB, h1, h2, h3, seqS, asgS, ifS, boolT, op2, retS, retN, dropS, varE, conE, blt, bltC, consA, nilA, tupT, subT, nmT, tsT, nxS, R.bind, R.bindS, opt, derefD, derefs, dats, datD, subV, callE, callK, pick, andT, orT, notT, truT, trueD, truP, andE, orE, notE, iteE, isiE, isiP, tupE, lstE, celE, chainE, negE, slcE, someO, noO, cutP, mtE, mnE, parS, seqI, srcD, rngI1, rngI2, rg1, rg2, lrgE, lrgC, trgE, forS, ixP, atI, ixN, gtP, ltP, leP, geP, addP, subP, absP, maxP, minP, intP, boolP, lenP, tupleP, listP, listC]
            cases b <;> simp [tmB, h1, h3]
          · have h3 : a < many := by omega
            cases b with
            | int b =>
              by_cases h4 : -1000000000 ≤ b
              · by_cases h5 : b ≤ 1000000000
                · by_cases h6 : b = 0
                  · subst h6; simp [lb_is_sum_of_0, tupof_ok, tupB, count_ok, cntB, amount_ok, amtB, tmB, h1, h2, h3, eqP_int, seqS, asgS, ifS, boolT, op2, retS, retN, dropS, varE, conE, blt, bltC, consA, nilA, tupT, subT, nmT, tsT, nxS, R.bind, R.bindS, opt, derefD, derefs, dats, datD, subV, callE, callK, pick, andT, orT, notT, truT, trueD, truP, andE, orE, notE, iteE, isiE, isiP, tupE, lstE, celE, chainE, negE, slcE, someO, noO, cutP, mtE, mnE, parS, seqI, srcD, rngI1, rngI2, rg1, rg2, lrgE, lrgC, trgE, forS, ixP, atI, ixN, gtP, ltP, leP, geP, addP, subP, absP, maxP, minP, intP, boolP, lenP, tupleP, listP, listC]
                  · simp [lb_is_sum_of_0, tupof_ok, tupB, count_ok, cntB, amount_ok, amtB, tmB, h1, h2, h3, h4, h5, h6, eqP_int, seqS, asgS, ifS, boolT, op2, retS, retN, dropS, varE, conE, blt, bltC, consA, nilA, tupT, subT, nmT, tsT, nxS, R.bind, R.bindS, opt, derefD, derefs, dats, datD, subV, callE, callK, pick, andT, orT, notT, truT, trueD, truP, andE, orE, notE, iteE, isiE, isiP, tupE, lstE, celE, chainE, negE, slcE, someO, noO, cutP, mtE, mnE, parS, seqI, srcD, rngI1, rngI2, rg1, rg2, lrgE, lrgC, trgE, forS, ixP, atI, ixN, gtP, ltP, leP, geP, addP, subP, absP, maxP, minP, intP, boolP, lenP, tupleP, listP, listC]
                · simp [lb_is_sum_of_0, tupof_ok, tupB, count_ok, cntB, amount_ok, amtB, tmB, h1, h2, h3, h4, h5, eqP_int, seqS, asgS, ifS, boolT, op2, retS, retN, dropS, varE, conE, blt, bltC, consA, nilA, tupT, subT, nmT, tsT, nxS, R.bind, R.bindS, opt, derefD, derefs, dats, datD, subV, callE, callK, pick, andT, orT, notT, truT, trueD, truP, andE, orE, notE, iteE, isiE, isiP, tupE, lstE, celE, chainE, negE, slcE, someO, noO, cutP, mtE, mnE, parS, seqI, srcD, rngI1, rngI2, rg1, rg2, lrgE, lrgC, trgE, forS, ixP, atI, ixN, gtP, ltP, leP, geP, addP, subP, absP, maxP, minP, intP, boolP, lenP, tupleP, listP, listC]
              · simp [lb_is_sum_of_0, tupof_ok, tupB, count_ok, cntB, amount_ok, amtB, tmB, h1, h2, h3, h4, eqP_int, seqS, asgS, ifS, boolT, op2, retS, retN, dropS, varE, conE, blt, bltC, consA, nilA, tupT, subT, nmT, tsT, nxS, R.bind, R.bindS, opt, derefD, derefs, dats, datD, subV, callE, callK, pick, andT, orT, notT, truT, trueD, truP, andE, orE, notE, iteE, isiE, isiP, tupE, lstE, celE, chainE, negE, slcE, someO, noO, cutP, mtE, mnE, parS, seqI, srcD, rngI1, rngI2, rg1, rg2, lrgE, lrgC, trgE, forS, ixP, atI, ixN, gtP, ltP, leP, geP, addP, subP, absP, maxP, minP, intP, boolP, lenP, tupleP, listP, listC]
            | _ => simp [lb_is_sum_of_0, tupof_ok, tupB, count_ok, cntB, amount_ok, amtB, tmB, h1, h2, h3, seqS, asgS, ifS, boolT, op2, retS, retN, dropS, varE, conE, blt, bltC, consA, nilA, tupT, subT, nmT, tsT, nxS, R.bind, R.bindS, opt, derefD, derefs, dats, datD, subV, callE, callK, pick, andT, orT, notT, truT, trueD, truP, andE, orE, notE, iteE, isiE, isiP, tupE, lstE, celE, chainE, negE, slcE, someO, noO, cutP, mtE, mnE, parS, seqI, srcD, rngI1, rngI2, rg1, rg2, lrgE, lrgC, trgE, forS, ixP, atI, ixN, gtP, ltP, leP, geP, addP, subP, absP, maxP, minP, intP, boolP, lenP, tupleP, listP, listC]
        · simp [lb_is_sum_of_0, tupof_ok, tupB, count_ok, cntB, tmB, h1, seqS, asgS, ifS, boolT, op2, retS, retN, dropS, varE, conE, blt, bltC, consA, nilA, tupT, subT, nmT, tsT, nxS, R.bind, R.bindS, opt, derefD, derefs, dats, datD, subV, callE, callK, pick, andT, orT, notT, truT, trueD, truP, andE, orE, notE, iteE, isiE, isiP, tupE, lstE, celE, chainE, negE, slcE, someO, noO, cutP, mtE, mnE, parS, seqI, srcD, rngI1, rngI2, rg1, rg2, lrgE, lrgC, trgE, forS, ixP, atI, ixN, gtP, ltP, leP, geP, addP, subP, absP, maxP, minP, intP, boolP, lenP, tupleP, listP, listC]
          cases b <;> simp [tmB, h1]
      | _ => simp [lb_is_sum_of_0, tupof_ok, tupB, count_ok, cntB, tmB, seqS, asgS, ifS, boolT, op2, retS, retN, dropS, varE, conE, blt, bltC, consA, nilA, tupT, subT, nmT, tsT, nxS, R.bind, R.bindS, opt, derefD, derefs, dats, datD, subV, callE, callK, pick, andT, orT, notT, truT, trueD, truP, andE, orE, notE, iteE, isiE, isiP, tupE, lstE, celE, chainE, negE, slcE, someO, noO, cutP, mtE, mnE, parS, seqI, srcD, rngI1, rngI2, rg1, rg2, lrgE, lrgC, trgE, forS, ixP, atI, ixN, gtP, ltP, leP, geP, addP, subP, absP, maxP, minP, intP, boolP, lenP, tupleP, listP, listC]
  | _ => simp [lb_is_sum_of_0, tupof_ok, tupB, tmB, seqS, asgS, ifS, boolT, op2, retS, retN, dropS, varE, conE, blt, bltC, consA, nilA, tupT, subT, nmT, tsT, nxS, R.bind, R.bindS, opt, derefD, derefs, dats, datD, subV, callE, callK, pick, andT, orT, notT, truT, trueD, truP, andE, orE, notE, iteE, isiE, isiP, tupE, lstE, celE, chainE, negE, slcE, someO, noO, cutP, mtE, mnE, parS, seqI, srcD, rngI1, rngI2, rg1, rg2, lrgE, lrgC, trgE, forS, ixP, atI, ixN, gtP, ltP, leP, geP, addP, subP, absP, maxP, minP, intP, boolP, lenP, tupleP, listP, listC]
theorem loop_ok (v : PD) (many : Int) (S : Store) (src : Src) (hs : src.ok S) : ∀ (ts : List PD) (x : Option D), ∃ x', forF src (nmT 2) lb_is_sum_of_0 ts [some (.dat v), some (.dat (.int many)), x] S =
    if ts.all (tmB many) = true then .ok (.nx [some (.dat v), some (.dat (.int many)), x']) S else .ok (.ret (.dat (.bool false))) S
  | [], x => ⟨x, by rw [forF_nil hs]; rfl⟩
  | t :: ts, x => by
    obtain ⟨x', ih⟩ := loop_ok v many S src hs ts (some (.dat t))
    refine ⟨x', ?_⟩
    have hb := body_ok v v t none many S
    cases ht : tmB many t with
    | true =>
      rw [ht, if_pos rfl] at hb
      rw [forF_step hs (δ1 := [some (.dat v), some (.dat (.int many)), some (.dat t)]) (S1 := S) (by simp [nmT]) hb, ih]
      simp [ht]
    | false =>
      rw [ht, if_neg (by decide)] at hb
      rw [forF_ret hs (δ1 := [some (.dat v), some (.dat (.int many)), some (.dat t)]) (S1 := S) (by simp [nmT]) hb]
      simp [ht]
theorem cut1 {α : Type} (xs : List α) : cutD xs (some 1) none = xs.drop 1 := by
  unfold cutD
  have e : HT.sIx xs.length 0 (some 1) = min 1 xs.length := HT.sIx_nat _ _ 1
  rw [e, HT.sIx_none]
  cases xs with
  | nil => rfl
  | cons a b => simp
def ltQ : PD → Bool
  | .tuple [.int a, .int b] => decide (a < b)
  | _ => false
theorem zip_rise : ∀ as : List Int, (zipL (as.map PyData.int) ((as.map PyData.int).drop 1)).all ltQ = rise as
  | [] => rfl
  | [a] => rfl
  | a :: b :: r => by
    have ih := zip_rise (b :: r)
    simp only [List.map_cons, List.drop_succ_cons, List.drop_zero] at ih ⊢
    simp only [zipL, List.all_cons, rise]
    rw [← ih]
    rfl
theorem zip_all : ∀ (as : List Int) (p : PD), p ∈ zipL (as.map PyData.int) ((as.map PyData.int).drop 1) → ∃ a b : Int, p = .tuple [.int a, .int b]
  | [], p, h => by simp [zipL] at h
  | [a], p, h => by simp [zipL] at h
  | a :: b :: r, p, h => by
    simp only [List.map_cons, List.drop_succ_cons, List.drop_zero, zipL, List.mem_cons] at h
    rcases h with h | h
    · exact ⟨a, b, h⟩
    · exact zip_all (b :: r) p (by simpa using h)
theorem zip_short : ∀ (as bs : List PD), (zipL as bs).length ≤ as.length
  | [], _ => by simp [zipL]
  | _ :: _, [] => by simp [zipL]
  | a :: as, b :: bs => by simp [zipL, zip_short as bs]
theorem rising_ok (as : List Int) (hz : as.length ≤ 1000000) (S : Store) : F_is_rising [.dat (.list (as.map PyData.int))] S = .ok (.dat (.bool (rise as))) S := by
  refine fnM_dat ?_ rfl
  have hc : c_is_rising_0 [some (.dat (.list (as.map PyData.int))), none, none] S = .ok (.dat (.list ((zipL (as.map PyData.int) ((as.map PyData.int).drop 1)).map fun p => .bool (ltQ p)))) S := by
    have q := lcLoop_map (src := ⟨zipL (as.map PyData.int) ((as.map PyData.int).drop 1), []⟩) (g := tupT [(nmT 1), (nmT 2)]) (fe := op2 ltP (varE 1) (varE 2)) (δ := [some (.dat (.list (as.map PyData.int))), none, none]) (S := S) (f := fun p => .bool (ltQ p)) rfl (zipL (as.map PyData.int) ((as.map PyData.int).drop 1)) []
      (fun p hp => by
        obtain ⟨a, b, rfl⟩ := zip_all as p hp
        exact ⟨[some (.dat (.list (as.map PyData.int))), some (.dat (.int a)), some (.dat (.int b))], by simp [nmT, tupT, tsT, R.bind], by simp [ltQ, seqS, asgS, ifS, boolT, op2, retS, retN, dropS, varE, conE, blt, bltC, consA, nilA, tupT, subT, nmT, tsT, nxS, R.bind, R.bindS, opt, derefD, derefs, dats, datD, subV, callE, callK, pick, andT, orT, notT, truT, trueD, truP, andE, orE, notE, iteE, isiE, isiP, tupE, lstE, celE, chainE, negE, slcE, someO, noO, cutP, mtE, mnE, parS, seqI, srcD, rngI1, rngI2, rg1, rg2, lrgE, lrgC, trgE, forS, ixP, atI, ixN, gtP, ltP, leP, geP, addP, subP, absP, maxP, minP, intP, boolP, lenP, tupleP, listP, listC]⟩)
      (by have := zip_short (as.map PyData.int) ((as.map PyData.int).drop 1)
          rw [List.length_map] at this
          rw [sizeLine_eq]; simp only [List.length_nil]; omega)
    simp only [c_is_rising_0, lcE, lcA, zipI, consA, nilA, varE, slcE, someO, noO, conE, zipV, derefD, cutP, cut1, csD, opt, R.bind, wipeD, List.getElem?_cons_zero, List.set, List.append_nil]
    rw [q]
    simp
  have e : allP [.list ((zipL (as.map PyData.int) ((as.map PyData.int).drop 1)).map fun p => .bool (ltQ p))] = some (.bool (rise as)) := by rw [allP_map, zip_rise]
  simp only [b_is_rising, seqS, retS, blt, consA, nilA, hc, R.bind, R.bindS, opt, derefs, derefD, e, List.map, List.replicate, List.cons_append, List.nil_append, Option.bind, Option.map]
/-- a sum whose parts are not too long -/
def Short (v : PD) : Prop := ∀ ds, v = .tuple ds → ∀ ts, PyData.tuple ts ∈ ds → ts.length ≤ 1000000
theorem sumof_ok (v : PD) (many : Int) (hv : Short v) (S : Store) : F_is_sum_of [.dat v, .dat (.int many)] S = .ok (.dat (.bool (smB many v))) S := by
  refine fnM_dat ?_ rfl
  cases v with
  | tuple ds =>
    match ds, hv with
    | [], _ => simp [b_is_sum_of, tupof_ok, tupB, smB, seqS, asgS, ifS, boolT, op2, retS, retN, dropS, varE, conE, blt, bltC, consA, nilA, tupT, subT, nmT, tsT, nxS, R.bind, R.bindS, opt, derefD, derefs, dats, datD, subV, callE, callK, pick, andT, orT, notT, truT, trueD, truP, andE, orE, notE, iteE, isiE, isiP, tupE, lstE, celE, chainE, negE, slcE, someO, noO, cutP, mtE, mnE, parS, seqI, srcD, rngI1, rngI2, rg1, rg2, lrgE, lrgC, trgE, forS, ixP, atI, ixN, gtP, ltP, leP, geP, addP, subP, absP, maxP, minP, intP, boolP, lenP, tupleP, listP, listC]
    | [a], _ => simp [b_is_sum_of, tupof_ok, tupB, smB, seqS, asgS, ifS, boolT, op2, retS, retN, dropS, varE, conE, blt, bltC, consA, nilA, tupT, subT, nmT, tsT, nxS, R.bind, R.bindS, opt, derefD, derefs, dats, datD, subV, callE, callK, pick, andT, orT, notT, truT, trueD, truP, andE, orE, notE, iteE, isiE, isiP, tupE, lstE, celE, chainE, negE, slcE, someO, noO, cutP, mtE, mnE, parS, seqI, srcD, rngI1, rngI2, rg1, rg2, lrgE, lrgC, trgE, forS, ixP, atI, ixN, gtP, ltP, leP, geP, addP, subP, absP, maxP, minP, intP, boolP, lenP, tupleP, listP, listC]
    | a :: b :: c :: r, _ =>
      have : ¬ ((r.length : Int) + 1 + 1 + 1 = 2) := by omega
      simp [b_is_sum_of, tupof_ok, tupB, smB, this, seqS, asgS, ifS, boolT, op2, retS, retN, dropS, varE, conE, blt, bltC, consA, nilA, tupT, subT, nmT, tsT, nxS, R.bind, R.bindS, opt, derefD, derefs, dats, datD, subV, callE, callK, pick, andT, orT, notT, truT, trueD, truP, andE, orE, notE, iteE, isiE, isiP, tupE, lstE, celE, chainE, negE, slcE, someO, noO, cutP, mtE, mnE, parS, seqI, srcD, rngI1, rngI2, rg1, rg2, lrgE, lrgC, trgE, forS, ixP, atI, ixN, gtP, ltP, leP, geP, addP, subP, absP, maxP, minP, intP, boolP, lenP, tupleP, listP, listC]
    | [a, b], hv =>
      cases a with
      | int a =>
        cases ha : amtB 1000000000 (.int a) with
        | false =>
          simp [b_is_sum_of, tupof_ok, tupB, amount_ok, ha, seqS, asgS, ifS, boolT, op2, retS, retN, dropS, varE, conE, blt, bltC, consA, nilA, tupT, subT, nmT, tsT, nxS, R.bind, R.bindS, opt, derefD, derefs, dats, datD, subV, callE, callK, pick, andT, orT, notT, truT, trueD, truP, andE, orE, notE, iteE, isiE, isiP, tupE, lstE, celE, chainE, negE, slcE, someO, noO, cutP, mtE, mnE, parS, seqI, srcD, rngI1, rngI2, rg1, rg2, lrgE, lrgC, trgE, forS, ixP, atI, ixN, gtP, ltP, leP, geP, addP, subP, absP, maxP, minP, intP, boolP, lenP, tupleP, listP, listC]
          cases b <;> simp [smB, ha]
        | true =>
          cases b with
          | tuple ts =>
            have hz : ts.length ≤ 1000000 := hv _ rfl ts (by simp)
            obtain ⟨x', hl⟩ := loop_ok (.tuple [.int a, .tuple ts]) many S ⟨ts, []⟩ ok_nil ts none
            have hloop : l_is_sum_of_1 [some (.dat (.tuple [.int a, .tuple ts])), some (.dat (.int many)), none] S = if ts.all (tmB many) = true then .ok (.nx [some (.dat (.tuple [.int a, .tuple ts])), some (.dat (.int many)), x']) S else .ok (.ret (.dat (.bool false))) S := by
              rw [← hl]
              simp [l_is_sum_of_1, forS, seqI, op2, varE, conE, R.bind, R.bindS, opt, derefD, ixP, atI, ixN, srcD]
            cases hall : ts.all (tmB many) with
            | false =>
              rw [hall, if_neg (by decide)] at hloop
              simp [b_is_sum_of, tupof_ok, tupB, amount_ok, ha, smB, hall, hloop, seqS, asgS, ifS, boolT, op2, retS, retN, dropS, varE, conE, blt, bltC, consA, nilA, tupT, subT, nmT, tsT, nxS, R.bind, R.bindS, opt, derefD, derefs, dats, datD, subV, callE, callK, pick, andT, orT, notT, truT, trueD, truP, andE, orE, notE, iteE, isiE, isiP, tupE, lstE, celE, chainE, negE, slcE, someO, noO, cutP, mtE, mnE, parS, seqI, srcD, rngI1, rngI2, rg1, rg2, lrgE, lrgC, trgE, forS, ixP, atI, ixN, gtP, ltP, leP, geP, addP, subP, absP, maxP, minP, intP, boolP, lenP, tupleP, listP, listC]
            | true =>
              rw [hall, if_pos rfl] at hloop
              have ex : ∀ p ∈ ts, ∃ a b : Int, p = .tuple [.int a, .int b] := fun p hp => by
                obtain ⟨a, b, e, _⟩ := tmB_ex (List.all_eq_true.mp hall p hp)
                exact ⟨a, b, e⟩
              have hc : c_is_sum_of_2 [some (.dat (.tuple [.int a, .tuple ts])), some (.dat (.int many)), x'] S = .ok (.dat (.list ((ts.map fstI).map PyData.int))) S := by
                have q := lcLoop_map (src := ⟨ts, []⟩) (g := nmT 2) (fe := op2 ixP (varE 2) (conE (.int 0))) (δ := [some (.dat (.tuple [.int a, .tuple ts])), some (.dat (.int many)), none]) (S := S) (f := fun p => .int (fstI p)) rfl ts []
                  (fun p hp => by
                    obtain ⟨a', b', rfl⟩ := ex p hp
                    exact ⟨[some (.dat (.tuple [.int a, .tuple ts])), some (.dat (.int many)), some (.dat (.tuple [.int a', .int b']))], by simp [nmT], by simp [fstI, seqS, asgS, ifS, boolT, op2, retS, retN, dropS, varE, conE, blt, bltC, consA, nilA, tupT, subT, nmT, tsT, nxS, R.bind, R.bindS, opt, derefD, derefs, dats, datD, subV, callE, callK, pick, andT, orT, notT, truT, trueD, truP, andE, orE, notE, iteE, isiE, isiP, tupE, lstE, celE, chainE, negE, slcE, someO, noO, cutP, mtE, mnE, parS, seqI, srcD, rngI1, rngI2, rg1, rg2, lrgE, lrgC, trgE, forS, ixP, atI, ixN, gtP, ltP, leP, geP, addP, subP, absP, maxP, minP, intP, boolP, lenP, tupleP, listP, listC]⟩)
                  (by rw [sizeLine_eq]; simp only [List.length_nil]; omega)
                have q2 : c_is_sum_of_2 [some (.dat (.tuple [.int a, .tuple ts])), some (.dat (.int many)), x'] S = (lcLoop ⟨ts, []⟩ (nmT 2) yesT (op2 ixP (varE 2) (conE (.int 0))) [some (.dat (.tuple [.int a, .tuple ts])), some (.dat (.int many)), none] ts [] S).bind fun ps S1 => .ok (.dat (.list ps)) S1 := by
                  simp [c_is_sum_of_2, lcE, lcA, wipeD, seqI, varE, conE, R.bind, opt, derefD, ixP, atI, ixN, srcD, op2]
                rw [q2, q]
                simp [R.bind]
              have hr := rising_ok (ts.map fstI) (by rw [List.length_map]; exact hz) S
              simp [b_is_sum_of, tupof_ok, tupB, amount_ok, ha, smB, hall, hloop, hc, -List.map_map, hr, seqS, asgS, ifS, boolT, op2, retS, retN, dropS, varE, conE, blt, bltC, consA, nilA, tupT, subT, nmT, tsT, nxS, R.bind, R.bindS, opt, derefD, derefs, dats, datD, subV, callE, callK, pick, andT, orT, notT, truT, trueD, truP, andE, orE, notE, iteE, isiE, isiP, tupE, lstE, celE, chainE, negE, slcE, someO, noO, cutP, mtE, mnE, parS, seqI, srcD, rngI1, rngI2, rg1, rg2, lrgE, lrgC, trgE, forS, ixP, atI, ixN, gtP, ltP, leP, geP, addP, subP, absP, maxP, minP, intP, boolP, lenP, tupleP, listP, listC]
          | _ => simp [b_is_sum_of, tupof_ok, tupB, amount_ok, ha, smB, seqS, asgS, ifS, boolT, op2, retS, retN, dropS, varE, conE, blt, bltC, consA, nilA, tupT, subT, nmT, tsT, nxS, R.bind, R.bindS, opt, derefD, derefs, dats, datD, subV, callE, callK, pick, andT, orT, notT, truT, trueD, truP, andE, orE, notE, iteE, isiE, isiP, tupE, lstE, celE, chainE, negE, slcE, someO, noO, cutP, mtE, mnE, parS, seqI, srcD, rngI1, rngI2, rg1, rg2, lrgE, lrgC, trgE, forS, ixP, atI, ixN, gtP, ltP, leP, geP, addP, subP, absP, maxP, minP, intP, boolP, lenP, tupleP, listP, listC]
      | _ => simp [b_is_sum_of, tupof_ok, tupB, amount_ok, amtB, smB, seqS, asgS, ifS, boolT, op2, retS, retN, dropS, varE, conE, blt, bltC, consA, nilA, tupT, subT, nmT, tsT, nxS, R.bind, R.bindS, opt, derefD, derefs, dats, datD, subV, callE, callK, pick, andT, orT, notT, truT, trueD, truP, andE, orE, notE, iteE, isiE, isiP, tupE, lstE, celE, chainE, negE, slcE, someO, noO, cutP, mtE, mnE, parS, seqI, srcD, rngI1, rngI2, rg1, rg2, lrgE, lrgC, trgE, forS, ixP, atI, ixN, gtP, ltP, leP, geP, addP, subP, absP, maxP, minP, intP, boolP, lenP, tupleP, listP, listC]
  | _ => simp [b_is_sum_of, tupof_ok, tupB, smB, seqS, asgS, ifS, boolT, op2, retS, retN, dropS, varE, conE, blt, bltC, consA, nilA, tupT, subT, nmT, tsT, nxS, R.bind, R.bindS, opt, derefD, derefs, dats, datD, subV, callE, callK, pick, andT, orT, notT, truT, trueD, truP, andE, orE, notE, iteE, isiE, isiP, tupE, lstE, celE, chainE, negE, slcE, someO, noO, cutP, mtE, mnE, parS, seqI, srcD, rngI1, rngI2, rg1, rg2, lrgE, lrgC, trgE, forS, ixP, atI, ixN, gtP, ltP, leP, geP, addP, subP, absP, maxP, minP, intP, boolP, lenP, tupleP, listP, listC]
def belB (m : Int) : PD → Bool
  | .int i => decide (0 ≤ i) && decide (i < m)
  | _ => false
theorem below_ok (v : PD) (m : Int) (S : Store) : F_is_below [.dat v, .dat (.int m)] S = .ok (.dat (.bool (belB m v))) S := by
  refine fnM_dat ?_ rfl
  have h := count_ok v S
  cases v with
  | int i => by_cases c : 0 ≤ i <;> simp [b_is_below, cntB, belB, h, c, seqS, asgS, ifS, boolT, op2, retS, retN, dropS, varE, conE, blt, bltC, consA, nilA, tupT, subT, nmT, tsT, nxS, R.bind, R.bindS, opt, derefD, derefs, dats, datD, subV, callE, callK, pick, andT, orT, notT, truT, trueD, truP, andE, orE, notE, iteE, isiE, isiP, tupE, lstE, celE, chainE, negE, slcE, someO, noO, cutP, mtE, mnE, parS, seqI, srcD, rngI1, rngI2, rg1, rg2, lrgE, lrgC, trgE, forS, ixP, atI, ixN, gtP, ltP, leP, geP, addP, subP, absP, maxP, minP, intP, boolP, lenP, tupleP, listP, listC]
  | _ => simp [b_is_below, cntB, belB, h, seqS, asgS, ifS, boolT, op2, retS, retN, dropS, varE, conE, blt, bltC, consA, nilA, tupT, subT, nmT, tsT, nxS, R.bind, R.bindS, opt, derefD, derefs, dats, datD, subV, callE, callK, pick, andT, orT, notT, truT, trueD, truP, andE, orE, notE, iteE, isiE, isiP, tupE, lstE, celE, chainE, negE, slcE, someO, noO, cutP, mtE, mnE, parS, seqI, srcD, rngI1, rngI2, rg1, rg2, lrgE, lrgC, trgE, forS, ixP, atI, ixN, gtP, ltP, leP, geP, addP, subP, absP, maxP, minP, intP, boolP, lenP, tupleP, listP, listC]
theorem pow9 : powP (.int 10) (.int 9) = some (.int 1000000000) := by simp [powP]
/-! ### instructions -/
/-- a thing that is not too great, without dicts -/
def Ok (v : PD) : Prop := (∃ N d, Gd N d v) ∧ sz v ≤ 100000
theorem Ok.tup {ds : List PD} (h : Ok (.tuple ds)) : ds.length ≤ 100000 ∧ ∀ x ∈ ds, Ok x := by
  obtain ⟨⟨N, d, h⟩, z⟩ := h
  simp only [sz] at z
  have := szA_len ds
  exact ⟨by omega, fun x hx => ⟨⟨N, d - 1, h.tupOf x hx⟩, by have := szA_mem hx; omega⟩⟩
theorem Ok.short {v : PD} (h : Ok v) : Short v := fun ds e ts ht => by
  subst e
  have := (h.tup.2 _ ht).tup.1
  omega
theorem Ok.noDict {kvs : List (PD × PD)} (h : Ok (.dict kvs)) : False := let ⟨⟨_, _, h⟩, _⟩ := h; h.noDict
def smsB (many : Int) : PD → Bool
  | .tuple ds => !decide ((ds.length : Int) > if many < 4 then many else 4) && ds.all (smB many)
  | _ => false
theorem sums_ok (v : PD) (hv : Ok v) (many : Int) (S : Store) : F_are_sums [.dat v, .dat (.int many)] S = .ok (.dat (.bool (smsB many v))) S := by
  refine fnM_dat ?_ rfl
  cases v with
  | tuple ds =>
    have hc : ∀ z, c_are_sums_0 [some (.dat (.tuple ds)), some (.dat (.int many)), z] S = .ok (.dat (.list (ds.map fun p => .bool (smB many p)))) S := fun z => by
      refine lcE_pure (fun p => .bool (smB many p)) (by simp [seqI, varE, srcD, opt, R.bind]) (fun p hp => ⟨[some (.dat (.tuple ds)), some (.dat (.int many)), some (.dat p)], by simp [nmT, wipeD], ?_⟩) (by rw [sizeLine_eq]; have := hv.tup.1; omega)
      have := sumof_ok p many (hv.tup.2 p hp).short S
      simp [this, seqS, asgS, ifS, boolT, op2, retS, retN, dropS, varE, conE, blt, bltC, consA, nilA, tupT, subT, nmT, tsT, nxS, R.bind, R.bindS, opt, derefD, derefs, dats, datD, subV, callE, callK, pick, andT, orT, notT, truT, trueD, truP, andE, orE, notE, iteE, isiE, isiP, tupE, lstE, celE, chainE, negE, slcE, someO, noO, cutP, mtE, mnE, parS, seqI, srcD, rngI1, rngI2, rg1, rg2, lrgE, lrgC, trgE, forS, ixP, atI, ixN, gtP, ltP, leP, geP, addP, subP, absP, maxP, minP, intP, boolP, lenP, tupleP, listP, listC]
    by_cases h : (ds.length : Int) > if many < 4 then many else 4
    · simp [b_are_sums, smsB, h, seqS, asgS, ifS, boolT, op2, retS, retN, dropS, varE, conE, blt, bltC, consA, nilA, tupT, subT, nmT, tsT, nxS, R.bind, R.bindS, opt, derefD, derefs, dats, datD, subV, callE, callK, pick, andT, orT, notT, truT, trueD, truP, andE, orE, notE, iteE, isiE, isiP, tupE, lstE, celE, chainE, negE, slcE, someO, noO, cutP, mtE, mnE, parS, seqI, srcD, rngI1, rngI2, rg1, rg2, lrgE, lrgC, trgE, forS, ixP, atI, ixN, gtP, ltP, leP, geP, addP, subP, absP, maxP, minP, intP, boolP, lenP, tupleP, listP, listC]
    · simp [b_are_sums, smsB, h, hc, allP_map, seqS, asgS, ifS, boolT, op2, retS, retN, dropS, varE, conE, blt, bltC, consA, nilA, tupT, subT, nmT, tsT, nxS, R.bind, R.bindS, opt, derefD, derefs, dats, datD, subV, callE, callK, pick, andT, orT, notT, truT, trueD, truP, andE, orE, notE, iteE, isiE, isiP, tupE, lstE, celE, chainE, negE, slcE, someO, noO, cutP, mtE, mnE, parS, seqI, srcD, rngI1, rngI2, rg1, rg2, lrgE, lrgC, trgE, forS, ixP, atI, ixN, gtP, ltP, leP, geP, addP, subP, absP, maxP, minP, intP, boolP, lenP, tupleP, listP, listC]
  | _ => simp [b_are_sums, smsB, seqS, asgS, ifS, boolT, op2, retS, retN, dropS, varE, conE, blt, bltC, consA, nilA, tupT, subT, nmT, tsT, nxS, R.bind, R.bindS, opt, derefD, derefs, dats, datD, subV, callE, callK, pick, andT, orT, notT, truT, trueD, truP, andE, orE, notE, iteE, isiE, isiP, tupE, lstE, celE, chainE, negE, slcE, someO, noO, cutP, mtE, mnE, parS, seqI, srcD, rngI1, rngI2, rg1, rg2, lrgE, lrgC, trgE, forS, ixP, atI, ixN, gtP, ltP, leP, geP, addP, subP, absP, maxP, minP, intP, boolP, lenP, tupleP, listP, listC]
def insB (many size : Int) : PD → Bool
  | .tuple (.str w :: r) =>
    if w = "leave" ∨ w = "back" then r.isEmpty
    else if w = "call" ∨ w = "jump" then (match r with | [a, b] => belB size a && smsB many b | _ => false)
    else if w = "set" then (match r with | [a, b] => belB many a && smB many b | _ => false)
    else match r with
      | [a] => if w = "stop" then belB 1000 a else if w = "read" then isNone a || belB many a else if w = "tell" then smB many a else if w = "test" ∨ w = "go" ∨ w = "share" then belB size a else false
      | _ => false
  | _ => false
theorem words (w : Str) : w = "leave" ∨ w = "back" ∨ w = "stop" ∨ w = "read" ∨ w = "set" ∨ w = "tell" ∨ w = "test" ∨ w = "go" ∨ w = "share" ∨ w = "call" ∨ w = "jump" ∨ (w ≠ "leave" ∧ w ≠ "back" ∧ w ≠ "stop" ∧ w ≠ "read" ∧ w ≠ "set" ∧ w ≠ "tell" ∧ w ≠ "test" ∧ w ≠ "go" ∧ w ≠ "share" ∧ w ≠ "call" ∧ w ≠ "jump") := by
  by_cases h0 : w = "leave"
  · simp [h0]
  by_cases h1 : w = "back"
  · simp [h1]
  by_cases h2 : w = "stop"
  · simp [h2]
  by_cases h3 : w = "read"
  · simp [h3]
  by_cases h4 : w = "set"
  · simp [h4]
  by_cases h5 : w = "tell"
  · simp [h5]
  by_cases h6 : w = "test"
  · simp [h6]
  by_cases h7 : w = "go"
  · simp [h7]
  by_cases h8 : w = "share"
  · simp [h8]
  by_cases h9 : w = "call"
  · simp [h9]
  by_cases h10 : w = "jump"
  · simp [h10]
  simp [h0, h1, h2, h3, h4, h5, h6, h7, h8, h9, h10]
theorem ne_beq {a b : Str} (h : a ≠ b) : (a == b) = false := by simpa using h
theorem non_is (a : PD) : isP false a .none = some (.bool (isNone a)) := by cases a <;> rfl
theorem len_no {c : List PD} {a b d e : PD} : ¬ (((a :: b :: d :: e :: c : List PD).length : Int) = 1) ∧ ¬ (((a :: b :: d :: e :: c : List PD).length : Int) = 2) ∧ ¬ (((a :: b :: d :: e :: c : List PD).length : Int) = 3) := by
  simp only [List.length_cons]; omega
theorem ins_ok (v : PD) (hv : Ok v) (many size : Int) (S : Store) : F_is_instruction [.dat v, .dat (.int many), .dat (.int size)] S = .ok (.dat (.bool (insB many size v))) S := by
  refine fnM_dat ?_ rfl
  cases v with
  | tuple ds =>
    cases ds with
    | nil => simp [b_is_instruction, insB, eqP, eqOk, eqOk.go, PyData.eqv, PyData.eqvAll, seqS, asgS, ifS, boolT, op2, retS, retN, dropS, varE, conE, blt, bltC, consA, nilA, tupT, subT, nmT, tsT, nxS, R.bind, R.bindS, opt, derefD, derefs, dats, datD, subV, callE, callK, pick, andT, orT, notT, truT, trueD, truP, andE, orE, notE, iteE, isiE, isiP, tupE, lstE, celE, chainE, negE, slcE, someO, noO, cutP, mtE, mnE, parS, seqI, srcD, rngI1, rngI2, rg1, rg2, lrgE, lrgC, trgE, forS, ix0, ix1, ix2, ix3, ix4, ixl0, ixl1, gtP, ltP, leP, geP, addP, subP, absP, maxP, minP, intP, boolP, lenP, tupleP, listP, listC, sizeLine_eq]
    | cons a r =>
      have e0 : eqP (.tuple (a :: r)) (.tuple []) = some (.bool false) := by simp [eqP, eqOk, eqOk.go, PyData.eqv, PyData.eqvAll]
      cases a with
      | str w =>
        have okr : ∀ x ∈ r, Ok x := fun x hx => hv.tup.2 x (List.mem_cons_of_mem _ hx)
        rcases words w with rfl | rfl | rfl | rfl | rfl | rfl | rfl | rfl | rfl | rfl | rfl | ⟨n0, n1, n2, n3, n4, n5, n6, n7, n8, n9, n10⟩
        · match r, okr with
          | [], _ => simp [b_is_instruction, insB, e0, in_s2, in_s3, eqP_str, neP_int, eqP_int, beq_lit, str_lit, seqS, asgS, ifS, boolT, op2, retS, retN, dropS, varE, conE, blt, bltC, consA, nilA, tupT, subT, nmT, tsT, nxS, R.bind, R.bindS, opt, derefD, derefs, dats, datD, subV, callE, callK, pick, andT, orT, notT, truT, trueD, truP, andE, orE, notE, iteE, isiE, isiP, tupE, lstE, celE, chainE, negE, slcE, someO, noO, cutP, mtE, mnE, parS, seqI, srcD, rngI1, rngI2, rg1, rg2, lrgE, lrgC, trgE, forS, ix0, ix1, ix2, ix3, ix4, ixl0, ixl1, gtP, ltP, leP, geP, addP, subP, absP, maxP, minP, intP, boolP, lenP, tupleP, listP, listC, sizeLine_eq]
          | [a], okr =>
            have k1 := fun m S => below_ok a m S
            have k2 := sumof_ok a many (okr a (by simp)).short S
            have k3 := sums_ok a (okr a (by simp)) many S
            simp [b_is_instruction, insB, e0, in_s2, in_s3, eqP_str, neP_int, eqP_int, beq_lit, str_lit, k1, k2, k3, non_is, seqS, asgS, ifS, boolT, op2, retS, retN, dropS, varE, conE, blt, bltC, consA, nilA, tupT, subT, nmT, tsT, nxS, R.bind, R.bindS, opt, derefD, derefs, dats, datD, subV, callE, callK, pick, andT, orT, notT, truT, trueD, truP, andE, orE, notE, iteE, isiE, isiP, tupE, lstE, celE, chainE, negE, slcE, someO, noO, cutP, mtE, mnE, parS, seqI, srcD, rngI1, rngI2, rg1, rg2, lrgE, lrgC, trgE, forS, ix0, ix1, ix2, ix3, ix4, ixl0, ixl1, gtP, ltP, leP, geP, addP, subP, absP, maxP, minP, intP, boolP, lenP, tupleP, listP, listC, sizeLine_eq]
            try (cases isNone a <;> simp)
          | [a, b], okr =>
            have k1 := fun m S => below_ok a m S
            have k2 := sumof_ok b many (okr b (by simp)).short S
            have k3 := sums_ok b (okr b (by simp)) many S
            simp [b_is_instruction, insB, e0, in_s2, in_s3, eqP_str, neP_int, eqP_int, beq_lit, str_lit, k1, k2, k3, seqS, asgS, ifS, boolT, op2, retS, retN, dropS, varE, conE, blt, bltC, consA, nilA, tupT, subT, nmT, tsT, nxS, R.bind, R.bindS, opt, derefD, derefs, dats, datD, subV, callE, callK, pick, andT, orT, notT, truT, trueD, truP, andE, orE, notE, iteE, isiE, isiP, tupE, lstE, celE, chainE, negE, slcE, someO, noO, cutP, mtE, mnE, parS, seqI, srcD, rngI1, rngI2, rg1, rg2, lrgE, lrgC, trgE, forS, ix0, ix1, ix2, ix3, ix4, ixl0, ixl1, gtP, ltP, leP, geP, addP, subP, absP, maxP, minP, intP, boolP, lenP, tupleP, listP, listC, sizeLine_eq]
            try (cases belB many a <;> simp)
            try (cases belB size a <;> simp)
          | a :: b :: c :: t, okr =>
            have l1 : ¬ ((t.length : Int) + 1 + 1 + 1 + 1 = 1) := by omega
            have l2 : ¬ ((t.length : Int) + 1 + 1 + 1 + 1 = 2) := by omega
            have l3 : ¬ ((t.length : Int) + 1 + 1 + 1 + 1 = 3) := by omega
            simp [b_is_instruction, insB, e0, in_s2, in_s3, eqP_str, neP_int, eqP_int, beq_lit, str_lit, l1, l2, l3, seqS, asgS, ifS, boolT, op2, retS, retN, dropS, varE, conE, blt, bltC, consA, nilA, tupT, subT, nmT, tsT, nxS, R.bind, R.bindS, opt, derefD, derefs, dats, datD, subV, callE, callK, pick, andT, orT, notT, truT, trueD, truP, andE, orE, notE, iteE, isiE, isiP, tupE, lstE, celE, chainE, negE, slcE, someO, noO, cutP, mtE, mnE, parS, seqI, srcD, rngI1, rngI2, rg1, rg2, lrgE, lrgC, trgE, forS, ix0, ix1, ix2, ix3, ix4, ixl0, ixl1, gtP, ltP, leP, geP, addP, subP, absP, maxP, minP, intP, boolP, lenP, tupleP, listP, listC, sizeLine_eq]
        · match r, okr with
          | [], _ => simp [b_is_instruction, insB, e0, in_s2, in_s3, eqP_str, neP_int, eqP_int, beq_lit, str_lit, seqS, asgS, ifS, boolT, op2, retS, retN, dropS, varE, conE, blt, bltC, consA, nilA, tupT, subT, nmT, tsT, nxS, R.bind, R.bindS, opt, derefD, derefs, dats, datD, subV, callE, callK, pick, andT, orT, notT, truT, trueD, truP, andE, orE, notE, iteE, isiE, isiP, tupE, lstE, celE, chainE, negE, slcE, someO, noO, cutP, mtE, mnE, parS, seqI, srcD, rngI1, rngI2, rg1, rg2, lrgE, lrgC, trgE, forS, ix0, ix1, ix2, ix3, ix4, ixl0, ixl1, gtP, ltP, leP, geP, addP, subP, absP, maxP, minP, intP, boolP, lenP, tupleP, listP, listC, sizeLine_eq]
          | [a], okr =>
            have k1 := fun m S => below_ok a m S
            have k2 := sumof_ok a many (okr a (by simp)).short S
            have k3 := sums_ok a (okr a (by simp)) many S
            simp [b_is_instruction, insB, e0, in_s2, in_s3, eqP_str, neP_int, eqP_int, beq_lit, str_lit, k1, k2, k3, non_is, seqS, asgS, ifS, boolT, op2, retS, retN, dropS, varE, conE, blt, bltC, consA, nilA, tupT, subT, nmT, tsT, nxS, R.bind, R.bindS, opt, derefD, derefs, dats, datD, subV, callE, callK, pick, andT, orT, notT, truT, trueD, truP, andE, orE, notE, iteE, isiE, isiP, tupE, lstE, celE, chainE, negE, slcE, someO, noO, cutP, mtE, mnE, parS, seqI, srcD, rngI1, rngI2, rg1, rg2, lrgE, lrgC, trgE, forS, ix0, ix1, ix2, ix3, ix4, ixl0, ixl1, gtP, ltP, leP, geP, addP, subP, absP, maxP, minP, intP, boolP, lenP, tupleP, listP, listC, sizeLine_eq]
            try (cases isNone a <;> simp)
          | [a, b], okr =>
            have k1 := fun m S => below_ok a m S
            have k2 := sumof_ok b many (okr b (by simp)).short S
            have k3 := sums_ok b (okr b (by simp)) many S
            simp [b_is_instruction, insB, e0, in_s2, in_s3, eqP_str, neP_int, eqP_int, beq_lit, str_lit, k1, k2, k3, seqS, asgS, ifS, boolT, op2, retS, retN, dropS, varE, conE, blt, bltC, consA, nilA, tupT, subT, nmT, tsT, nxS, R.bind, R.bindS, opt, derefD, derefs, dats, datD, subV, callE, callK, pick, andT, orT, notT, truT, trueD, truP, andE, orE, notE, iteE, isiE, isiP, tupE, lstE, celE, chainE, negE, slcE, someO, noO, cutP, mtE, mnE, parS, seqI, srcD, rngI1, rngI2, rg1, rg2, lrgE, lrgC, trgE, forS, ix0, ix1, ix2, ix3, ix4, ixl0, ixl1, gtP, ltP, leP, geP, addP, subP, absP, maxP, minP, intP, boolP, lenP, tupleP, listP, listC, sizeLine_eq]
            try (cases belB many a <;> simp)
            try (cases belB size a <;> simp)
          | a :: b :: c :: t, okr =>
            have l1 : ¬ ((t.length : Int) + 1 + 1 + 1 + 1 = 1) := by omega
            have l2 : ¬ ((t.length : Int) + 1 + 1 + 1 + 1 = 2) := by omega
            have l3 : ¬ ((t.length : Int) + 1 + 1 + 1 + 1 = 3) := by omega
            simp [b_is_instruction, insB, e0, in_s2, in_s3, eqP_str, neP_int, eqP_int, beq_lit, str_lit, l1, l2, l3, seqS, asgS, ifS, boolT, op2, retS, retN, dropS, varE, conE, blt, bltC, consA, nilA, tupT, subT, nmT, tsT, nxS, R.bind, R.bindS, opt, derefD, derefs, dats, datD, subV, callE, callK, pick, andT, orT, notT, truT, trueD, truP, andE, orE, notE, iteE, isiE, isiP, tupE, lstE, celE, chainE, negE, slcE, someO, noO, cutP, mtE, mnE, parS, seqI, srcD, rngI1, rngI2, rg1, rg2, lrgE, lrgC, trgE, forS, ix0, ix1, ix2, ix3, ix4, ixl0, ixl1, gtP, ltP, leP, geP, addP, subP, absP, maxP, minP, intP, boolP, lenP, tupleP, listP, listC, sizeLine_eq]
        · match r, okr with
          | [], _ => simp [b_is_instruction, insB, e0, in_s2, in_s3, eqP_str, neP_int, eqP_int, beq_lit, str_lit, seqS, asgS, ifS, boolT, op2, retS, retN, dropS, varE, conE, blt, bltC, consA, nilA, tupT, subT, nmT, tsT, nxS, R.bind, R.bindS, opt, derefD, derefs, dats, datD, subV, callE, callK, pick, andT, orT, notT, truT, trueD, truP, andE, orE, notE, iteE, isiE, isiP, tupE, lstE, celE, chainE, negE, slcE, someO, noO, cutP, mtE, mnE, parS, seqI, srcD, rngI1, rngI2, rg1, rg2, lrgE, lrgC, trgE, forS, ix0, ix1, ix2, ix3, ix4, ixl0, ixl1, gtP, ltP, leP, geP, addP, subP, absP, maxP, minP, intP, boolP, lenP, tupleP, listP, listC, sizeLine_eq]
          | [a], okr =>
            have k1 := fun m S => below_ok a m S
            have k2 := sumof_ok a many (okr a (by simp)).short S
            have k3 := sums_ok a (okr a (by simp)) many S
            simp [b_is_instruction, insB, e0, in_s2, in_s3, eqP_str, neP_int, eqP_int, beq_lit, str_lit, k1, k2, k3, non_is, seqS, asgS, ifS, boolT, op2, retS, retN, dropS, varE, conE, blt, bltC, consA, nilA, tupT, subT, nmT, tsT, nxS, R.bind, R.bindS, opt, derefD, derefs, dats, datD, subV, callE, callK, pick, andT, orT, notT, truT, trueD, truP, andE, orE, notE, iteE, isiE, isiP, tupE, lstE, celE, chainE, negE, slcE, someO, noO, cutP, mtE, mnE, parS, seqI, srcD, rngI1, rngI2, rg1, rg2, lrgE, lrgC, trgE, forS, ix0, ix1, ix2, ix3, ix4, ixl0, ixl1, gtP, ltP, leP, geP, addP, subP, absP, maxP, minP, intP, boolP, lenP, tupleP, listP, listC, sizeLine_eq]
            try (cases isNone a <;> simp)
          | [a, b], okr =>
            have k1 := fun m S => below_ok a m S
            have k2 := sumof_ok b many (okr b (by simp)).short S
            have k3 := sums_ok b (okr b (by simp)) many S
            simp [b_is_instruction, insB, e0, in_s2, in_s3, eqP_str, neP_int, eqP_int, beq_lit, str_lit, k1, k2, k3, seqS, asgS, ifS, boolT, op2, retS, retN, dropS, varE, conE, blt, bltC, consA, nilA, tupT, subT, nmT, tsT, nxS, R.bind, R.bindS, opt, derefD, derefs, dats, datD, subV, callE, callK, pick, andT, orT, notT, truT, trueD, truP, andE, orE, notE, iteE, isiE, isiP, tupE, lstE, celE, chainE, negE, slcE, someO, noO, cutP, mtE, mnE, parS, seqI, srcD, rngI1, rngI2, rg1, rg2, lrgE, lrgC, trgE, forS, ix0, ix1, ix2, ix3, ix4, ixl0, ixl1, gtP, ltP, leP, geP, addP, subP, absP, maxP, minP, intP, boolP, lenP, tupleP, listP, listC, sizeLine_eq]
            try (cases belB many a <;> simp)
            try (cases belB size a <;> simp)
          | a :: b :: c :: t, okr =>
            have l1 : ¬ ((t.length : Int) + 1 + 1 + 1 + 1 = 1) := by omega
            have l2 : ¬ ((t.length : Int) + 1 + 1 + 1 + 1 = 2) := by omega
            have l3 : ¬ ((t.length : Int) + 1 + 1 + 1 + 1 = 3) := by omega
            simp [b_is_instruction, insB, e0, in_s2, in_s3, eqP_str, neP_int, eqP_int, beq_lit, str_lit, l1, l2, l3, seqS, asgS, ifS, boolT, op2, retS, retN, dropS, varE, conE, blt, bltC, consA, nilA, tupT, subT, nmT, tsT, nxS, R.bind, R.bindS, opt, derefD, derefs, dats, datD, subV, callE, callK, pick, andT, orT, notT, truT, trueD, truP, andE, orE, notE, iteE, isiE, isiP, tupE, lstE, celE, chainE, negE, slcE, someO, noO, cutP, mtE, mnE, parS, seqI, srcD, rngI1, rngI2, rg1, rg2, lrgE, lrgC, trgE, forS, ix0, ix1, ix2, ix3, ix4, ixl0, ixl1, gtP, ltP, leP, geP, addP, subP, absP, maxP, minP, intP, boolP, lenP, tupleP, listP, listC, sizeLine_eq]
        · match r, okr with
          | [], _ => simp [b_is_instruction, insB, e0, in_s2, in_s3, eqP_str, neP_int, eqP_int, beq_lit, str_lit, seqS, asgS, ifS, boolT, op2, retS, retN, dropS, varE, conE, blt, bltC, consA, nilA, tupT, subT, nmT, tsT, nxS, R.bind, R.bindS, opt, derefD, derefs, dats, datD, subV, callE, callK, pick, andT, orT, notT, truT, trueD, truP, andE, orE, notE, iteE, isiE, isiP, tupE, lstE, celE, chainE, negE, slcE, someO, noO, cutP, mtE, mnE, parS, seqI, srcD, rngI1, rngI2, rg1, rg2, lrgE, lrgC, trgE, forS, ix0, ix1, ix2, ix3, ix4, ixl0, ixl1, gtP, ltP, leP, geP, addP, subP, absP, maxP, minP, intP, boolP, lenP, tupleP, listP, listC, sizeLine_eq]
          | [a], okr =>
            have k1 := fun m S => below_ok a m S
            have k2 := sumof_ok a many (okr a (by simp)).short S
            have k3 := sums_ok a (okr a (by simp)) many S
            simp [b_is_instruction, insB, e0, in_s2, in_s3, eqP_str, neP_int, eqP_int, beq_lit, str_lit, k1, k2, k3, non_is, seqS, asgS, ifS, boolT, op2, retS, retN, dropS, varE, conE, blt, bltC, consA, nilA, tupT, subT, nmT, tsT, nxS, R.bind, R.bindS, opt, derefD, derefs, dats, datD, subV, callE, callK, pick, andT, orT, notT, truT, trueD, truP, andE, orE, notE, iteE, isiE, isiP, tupE, lstE, celE, chainE, negE, slcE, someO, noO, cutP, mtE, mnE, parS, seqI, srcD, rngI1, rngI2, rg1, rg2, lrgE, lrgC, trgE, forS, ix0, ix1, ix2, ix3, ix4, ixl0, ixl1, gtP, ltP, leP, geP, addP, subP, absP, maxP, minP, intP, boolP, lenP, tupleP, listP, listC, sizeLine_eq]
            try (cases isNone a <;> simp)
          | [a, b], okr =>
            have k1 := fun m S => below_ok a m S
            have k2 := sumof_ok b many (okr b (by simp)).short S
            have k3 := sums_ok b (okr b (by simp)) many S
            simp [b_is_instruction, insB, e0, in_s2, in_s3, eqP_str, neP_int, eqP_int, beq_lit, str_lit, k1, k2, k3, seqS, asgS, ifS, boolT, op2, retS, retN, dropS, varE, conE, blt, bltC, consA, nilA, tupT, subT, nmT, tsT, nxS, R.bind, R.bindS, opt, derefD, derefs, dats, datD, subV, callE, callK, pick, andT, orT, notT, truT, trueD, truP, andE, orE, notE, iteE, isiE, isiP, tupE, lstE, celE, chainE, negE, slcE, someO, noO, cutP, mtE, mnE, parS, seqI, srcD, rngI1, rngI2, rg1, rg2, lrgE, lrgC, trgE, forS, ix0, ix1, ix2, ix3, ix4, ixl0, ixl1, gtP, ltP, leP, geP, addP, subP, absP, maxP, minP, intP, boolP, lenP, tupleP, listP, listC, sizeLine_eq]
            try (cases belB many a <;> simp)
            try (cases belB size a <;> simp)
          | a :: b :: c :: t, okr =>
            have l1 : ¬ ((t.length : Int) + 1 + 1 + 1 + 1 = 1) := by omega
            have l2 : ¬ ((t.length : Int) + 1 + 1 + 1 + 1 = 2) := by omega
            have l3 : ¬ ((t.length : Int) + 1 + 1 + 1 + 1 = 3) := by omega
            simp [b_is_instruction, insB, e0, in_s2, in_s3, eqP_str, neP_int, eqP_int, beq_lit, str_lit, l1, l2, l3, seqS, asgS, ifS, boolT, op2, retS, retN, dropS, varE, conE, blt, bltC, consA, nilA, tupT, subT, nmT, tsT, nxS, R.bind, R.bindS, opt, derefD, derefs, dats, datD, subV, callE, callK, pick, andT, orT, notT, truT, trueD, truP, andE, orE, notE, iteE, isiE, isiP, tupE, lstE, celE, chainE, negE, slcE, someO, noO, cutP, mtE, mnE, parS, seqI, srcD, rngI1, rngI2, rg1, rg2, lrgE, lrgC, trgE, forS, ix0, ix1, ix2, ix3, ix4, ixl0, ixl1, gtP, ltP, leP, geP, addP, subP, absP, maxP, minP, intP, boolP, lenP, tupleP, listP, listC, sizeLine_eq]
        · match r, okr with
          | [], _ => simp [b_is_instruction, insB, e0, in_s2, in_s3, eqP_str, neP_int, eqP_int, beq_lit, str_lit, seqS, asgS, ifS, boolT, op2, retS, retN, dropS, varE, conE, blt, bltC, consA, nilA, tupT, subT, nmT, tsT, nxS, R.bind, R.bindS, opt, derefD, derefs, dats, datD, subV, callE, callK, pick, andT, orT, notT, truT, trueD, truP, andE, orE, notE, iteE, isiE, isiP, tupE, lstE, celE, chainE, negE, slcE, someO, noO, cutP, mtE, mnE, parS, seqI, srcD, rngI1, rngI2, rg1, rg2, lrgE, lrgC, trgE, forS, ix0, ix1, ix2, ix3, ix4, ixl0, ixl1, gtP, ltP, leP, geP, addP, subP, absP, maxP, minP, intP, boolP, lenP, tupleP, listP, listC, sizeLine_eq]
          | [a], okr =>
            have k1 := fun m S => below_ok a m S
            have k2 := sumof_ok a many (okr a (by simp)).short S
            have k3 := sums_ok a (okr a (by simp)) many S
            simp [b_is_instruction, insB, e0, in_s2, in_s3, eqP_str, neP_int, eqP_int, beq_lit, str_lit, k1, k2, k3, non_is, seqS, asgS, ifS, boolT, op2, retS, retN, dropS, varE, conE, blt, bltC, consA, nilA, tupT, subT, nmT, tsT, nxS, R.bind, R.bindS, opt, derefD, derefs, dats, datD, subV, callE, callK, pick, andT, orT, notT, truT, trueD, truP, andE, orE, notE, iteE, isiE, isiP, tupE, lstE, celE, chainE, negE, slcE, someO, noO, cutP, mtE, mnE, parS, seqI, srcD, rngI1, rngI2, rg1, rg2, lrgE, lrgC, trgE, forS, ix0, ix1, ix2, ix3, ix4, ixl0, ixl1, gtP, ltP, leP, geP, addP, subP, absP, maxP, minP, intP, boolP, lenP, tupleP, listP, listC, sizeLine_eq]
            try (cases isNone a <;> simp)
          | [a, b], okr =>
            have k1 := fun m S => below_ok a m S
            have k2 := sumof_ok b many (okr b (by simp)).short S
            have k3 := sums_ok b (okr b (by simp)) many S
            simp [b_is_instruction, insB, e0, in_s2, in_s3, eqP_str, neP_int, eqP_int, beq_lit, str_lit, k1, k2, k3, seqS, asgS, ifS, boolT, op2, retS, retN, dropS, varE, conE, blt, bltC, consA, nilA, tupT, subT, nmT, tsT, nxS, R.bind, R.bindS, opt, derefD, derefs, dats, datD, subV, callE, callK, pick, andT, orT, notT, truT, trueD, truP, andE, orE, notE, iteE, isiE, isiP, tupE, lstE, celE, chainE, negE, slcE, someO, noO, cutP, mtE, mnE, parS, seqI, srcD, rngI1, rngI2, rg1, rg2, lrgE, lrgC, trgE, forS, ix0, ix1, ix2, ix3, ix4, ixl0, ixl1, gtP, ltP, leP, geP, addP, subP, absP, maxP, minP, intP, boolP, lenP, tupleP, listP, listC, sizeLine_eq]
            try (cases belB many a <;> simp)
            try (cases belB size a <;> simp)
          | a :: b :: c :: t, okr =>
            have l1 : ¬ ((t.length : Int) + 1 + 1 + 1 + 1 = 1) := by omega
            have l2 : ¬ ((t.length : Int) + 1 + 1 + 1 + 1 = 2) := by omega
            have l3 : ¬ ((t.length : Int) + 1 + 1 + 1 + 1 = 3) := by omega
            simp [b_is_instruction, insB, e0, in_s2, in_s3, eqP_str, neP_int, eqP_int, beq_lit, str_lit, l1, l2, l3, seqS, asgS, ifS, boolT, op2, retS, retN, dropS, varE, conE, blt, bltC, consA, nilA, tupT, subT, nmT, tsT, nxS, R.bind, R.bindS, opt, derefD, derefs, dats, datD, subV, callE, callK, pick, andT, orT, notT, truT, trueD, truP, andE, orE, notE, iteE, isiE, isiP, tupE, lstE, celE, chainE, negE, slcE, someO, noO, cutP, mtE, mnE, parS, seqI, srcD, rngI1, rngI2, rg1, rg2, lrgE, lrgC, trgE, forS, ix0, ix1, ix2, ix3, ix4, ixl0, ixl1, gtP, ltP, leP, geP, addP, subP, absP, maxP, minP, intP, boolP, lenP, tupleP, listP, listC, sizeLine_eq]
        · match r, okr with
          | [], _ => simp [b_is_instruction, insB, e0, in_s2, in_s3, eqP_str, neP_int, eqP_int, beq_lit, str_lit, seqS, asgS, ifS, boolT, op2, retS, retN, dropS, varE, conE, blt, bltC, consA, nilA, tupT, subT, nmT, tsT, nxS, R.bind, R.bindS, opt, derefD, derefs, dats, datD, subV, callE, callK, pick, andT, orT, notT, truT, trueD, truP, andE, orE, notE, iteE, isiE, isiP, tupE, lstE, celE, chainE, negE, slcE, someO, noO, cutP, mtE, mnE, parS, seqI, srcD, rngI1, rngI2, rg1, rg2, lrgE, lrgC, trgE, forS, ix0, ix1, ix2, ix3, ix4, ixl0, ixl1, gtP, ltP, leP, geP, addP, subP, absP, maxP, minP, intP, boolP, lenP, tupleP, listP, listC, sizeLine_eq]
          | [a], okr =>
            have k1 := fun m S => below_ok a m S
            have k2 := sumof_ok a many (okr a (by simp)).short S
            have k3 := sums_ok a (okr a (by simp)) many S
            simp [b_is_instruction, insB, e0, in_s2, in_s3, eqP_str, neP_int, eqP_int, beq_lit, str_lit, k1, k2, k3, non_is, seqS, asgS, ifS, boolT, op2, retS, retN, dropS, varE, conE, blt, bltC, consA, nilA, tupT, subT, nmT, tsT, nxS, R.bind, R.bindS, opt, derefD, derefs, dats, datD, subV, callE, callK, pick, andT, orT, notT, truT, trueD, truP, andE, orE, notE, iteE, isiE, isiP, tupE, lstE, celE, chainE, negE, slcE, someO, noO, cutP, mtE, mnE, parS, seqI, srcD, rngI1, rngI2, rg1, rg2, lrgE, lrgC, trgE, forS, ix0, ix1, ix2, ix3, ix4, ixl0, ixl1, gtP, ltP, leP, geP, addP, subP, absP, maxP, minP, intP, boolP, lenP, tupleP, listP, listC, sizeLine_eq]
            try (cases isNone a <;> simp)
          | [a, b], okr =>
            have k1 := fun m S => below_ok a m S
            have k2 := sumof_ok b many (okr b (by simp)).short S
            have k3 := sums_ok b (okr b (by simp)) many S
            simp [b_is_instruction, insB, e0, in_s2, in_s3, eqP_str, neP_int, eqP_int, beq_lit, str_lit, k1, k2, k3, seqS, asgS, ifS, boolT, op2, retS, retN, dropS, varE, conE, blt, bltC, consA, nilA, tupT, subT, nmT, tsT, nxS, R.bind, R.bindS, opt, derefD, derefs, dats, datD, subV, callE, callK, pick, andT, orT, notT, truT, trueD, truP, andE, orE, notE, iteE, isiE, isiP, tupE, lstE, celE, chainE, negE, slcE, someO, noO, cutP, mtE, mnE, parS, seqI, srcD, rngI1, rngI2, rg1, rg2, lrgE, lrgC, trgE, forS, ix0, ix1, ix2, ix3, ix4, ixl0, ixl1, gtP, ltP, leP, geP, addP, subP, absP, maxP, minP, intP, boolP, lenP, tupleP, listP, listC, sizeLine_eq]
            try (cases belB many a <;> simp)
            try (cases belB size a <;> simp)
          | a :: b :: c :: t, okr =>
            have l1 : ¬ ((t.length : Int) + 1 + 1 + 1 + 1 = 1) := by omega
            have l2 : ¬ ((t.length : Int) + 1 + 1 + 1 + 1 = 2) := by omega
            have l3 : ¬ ((t.length : Int) + 1 + 1 + 1 + 1 = 3) := by omega
            simp [b_is_instruction, insB, e0, in_s2, in_s3, eqP_str, neP_int, eqP_int, beq_lit, str_lit, l1, l2, l3, seqS, asgS, ifS, boolT, op2, retS, retN, dropS, varE, conE, blt, bltC, consA, nilA, tupT, subT, nmT, tsT, nxS, R.bind, R.bindS, opt, derefD, derefs, dats, datD, subV, callE, callK, pick, andT, orT, notT, truT, trueD, truP, andE, orE, notE, iteE, isiE, isiP, tupE, lstE, celE, chainE, negE, slcE, someO, noO, cutP, mtE, mnE, parS, seqI, srcD, rngI1, rngI2, rg1, rg2, lrgE, lrgC, trgE, forS, ix0, ix1, ix2, ix3, ix4, ixl0, ixl1, gtP, ltP, leP, geP, addP, subP, absP, maxP, minP, intP, boolP, lenP, tupleP, listP, listC, sizeLine_eq]
        · match r, okr with
          | [], _ => simp [b_is_instruction, insB, e0, in_s2, in_s3, eqP_str, neP_int, eqP_int, beq_lit, str_lit, seqS, asgS, ifS, boolT, op2, retS, retN, dropS, varE, conE, blt, bltC, consA, nilA, tupT, subT, nmT, tsT, nxS, R.bind, R.bindS, opt, derefD, derefs, dats, datD, subV, callE, callK, pick, andT, orT, notT, truT, trueD, truP, andE, orE, notE, iteE, isiE, isiP, tupE, lstE, celE, chainE, negE, slcE, someO, noO, cutP, mtE, mnE, parS, seqI, srcD, rngI1, rngI2, rg1, rg2, lrgE, lrgC, trgE, forS, ix0, ix1, ix2, ix3, ix4, ixl0, ixl1, gtP, ltP, leP, geP, addP, subP, absP, maxP, minP, intP, boolP, lenP, tupleP, listP, listC, sizeLine_eq]
          | [a], okr =>
            have k1 := fun m S => below_ok a m S
            have k2 := sumof_ok a many (okr a (by simp)).short S
            have k3 := sums_ok a (okr a (by simp)) many S
            simp [b_is_instruction, insB, e0, in_s2, in_s3, eqP_str, neP_int, eqP_int, beq_lit, str_lit, k1, k2, k3, non_is, seqS, asgS, ifS, boolT, op2, retS, retN, dropS, varE, conE, blt, bltC, consA, nilA, tupT, subT, nmT, tsT, nxS, R.bind, R.bindS, opt, derefD, derefs, dats, datD, subV, callE, callK, pick, andT, orT, notT, truT, trueD, truP, andE, orE, notE, iteE, isiE, isiP, tupE, lstE, celE, chainE, negE, slcE, someO, noO, cutP, mtE, mnE, parS, seqI, srcD, rngI1, rngI2, rg1, rg2, lrgE, lrgC, trgE, forS, ix0, ix1, ix2, ix3, ix4, ixl0, ixl1, gtP, ltP, leP, geP, addP, subP, absP, maxP, minP, intP, boolP, lenP, tupleP, listP, listC, sizeLine_eq]
            try (cases isNone a <;> simp)
          | [a, b], okr =>
            have k1 := fun m S => below_ok a m S
            have k2 := sumof_ok b many (okr b (by simp)).short S
            have k3 := sums_ok b (okr b (by simp)) many S
            simp [b_is_instruction, insB, e0, in_s2, in_s3, eqP_str, neP_int, eqP_int, beq_lit, str_lit, k1, k2, k3, seqS, asgS, ifS, boolT, op2, retS, retN, dropS, varE, conE, blt, bltC, consA, nilA, tupT, subT, nmT, tsT, nxS, R.bind, R.bindS, opt, derefD, derefs, dats, datD, subV, callE, callK, pick, andT, orT, notT, truT, trueD, truP, andE, orE, notE, iteE, isiE, isiP, tupE, lstE, celE, chainE, negE, slcE, someO, noO, cutP, mtE, mnE, parS, seqI, srcD, rngI1, rngI2, rg1, rg2, lrgE, lrgC, trgE, forS, ix0, ix1, ix2, ix3, ix4, ixl0, ixl1, gtP, ltP, leP, geP, addP, subP, absP, maxP, minP, intP, boolP, lenP, tupleP, listP, listC, sizeLine_eq]
            try (cases belB many a <;> simp)
            try (cases belB size a <;> simp)
          | a :: b :: c :: t, okr =>
            have l1 : ¬ ((t.length : Int) + 1 + 1 + 1 + 1 = 1) := by omega
            have l2 : ¬ ((t.length : Int) + 1 + 1 + 1 + 1 = 2) := by omega
            have l3 : ¬ ((t.length : Int) + 1 + 1 + 1 + 1 = 3) := by omega
            simp [b_is_instruction, insB, e0, in_s2, in_s3, eqP_str, neP_int, eqP_int, beq_lit, str_lit, l1, l2, l3, seqS, asgS, ifS, boolT, op2, retS, retN, dropS, varE, conE, blt, bltC, consA, nilA, tupT, subT, nmT, tsT, nxS, R.bind, R.bindS, opt, derefD, derefs, dats, datD, subV, callE, callK, pick, andT, orT, notT, truT, trueD, truP, andE, orE, notE, iteE, isiE, isiP, tupE, lstE, celE, chainE, negE, slcE, someO, noO, cutP, mtE, mnE, parS, seqI, srcD, rngI1, rngI2, rg1, rg2, lrgE, lrgC, trgE, forS, ix0, ix1, ix2, ix3, ix4, ixl0, ixl1, gtP, ltP, leP, geP, addP, subP, absP, maxP, minP, intP, boolP, lenP, tupleP, listP, listC, sizeLine_eq]
        · match r, okr with
          | [], _ => simp [b_is_instruction, insB, e0, in_s2, in_s3, eqP_str, neP_int, eqP_int, beq_lit, str_lit, seqS, asgS, ifS, boolT, op2, retS, retN, dropS, varE, conE, blt, bltC, consA, nilA, tupT, subT, nmT, tsT, nxS, R.bind, R.bindS, opt, derefD, derefs, dats, datD, subV, callE, callK, pick, andT, orT, notT, truT, trueD, truP, andE, orE, notE, iteE, isiE, isiP, tupE, lstE, celE, chainE, negE, slcE, someO, noO, cutP, mtE, mnE, parS, seqI, srcD, rngI1, rngI2, rg1, rg2, lrgE, lrgC, trgE, forS, ix0, ix1, ix2, ix3, ix4, ixl0, ixl1, gtP, ltP, leP, geP, addP, subP, absP, maxP, minP, intP, boolP, lenP, tupleP, listP, listC, sizeLine_eq]
          | [a], okr =>
            have k1 := fun m S => below_ok a m S
            have k2 := sumof_ok a many (okr a (by simp)).short S
            have k3 := sums_ok a (okr a (by simp)) many S
            simp [b_is_instruction, insB, e0, in_s2, in_s3, eqP_str, neP_int, eqP_int, beq_lit, str_lit, k1, k2, k3, non_is, seqS, asgS, ifS, boolT, op2, retS, retN, dropS, varE, conE, blt, bltC, consA, nilA, tupT, subT, nmT, tsT, nxS, R.bind, R.bindS, opt, derefD, derefs, dats, datD, subV, callE, callK, pick, andT, orT, notT, truT, trueD, truP, andE, orE, notE, iteE, isiE, isiP, tupE, lstE, celE, chainE, negE, slcE, someO, noO, cutP, mtE, mnE, parS, seqI, srcD, rngI1, rngI2, rg1, rg2, lrgE, lrgC, trgE, forS, ix0, ix1, ix2, ix3, ix4, ixl0, ixl1, gtP, ltP, leP, geP, addP, subP, absP, maxP, minP, intP, boolP, lenP, tupleP, listP, listC, sizeLine_eq]
            try (cases isNone a <;> simp)
          | [a, b], okr =>
            have k1 := fun m S => below_ok a m S
            have k2 := sumof_ok b many (okr b (by simp)).short S
            have k3 := sums_ok b (okr b (by simp)) many S
            simp [b_is_instruction, insB, e0, in_s2, in_s3, eqP_str, neP_int, eqP_int, beq_lit, str_lit, k1, k2, k3, seqS, asgS, ifS, boolT, op2, retS, retN, dropS, varE, conE, blt, bltC, consA, nilA, tupT, subT, nmT, tsT, nxS, R.bind, R.bindS, opt, derefD, derefs, dats, datD, subV, callE, callK, pick, andT, orT, notT, truT, trueD, truP, andE, orE, notE, iteE, isiE, isiP, tupE, lstE, celE, chainE, negE, slcE, someO, noO, cutP, mtE, mnE, parS, seqI, srcD, rngI1, rngI2, rg1, rg2, lrgE, lrgC, trgE, forS, ix0, ix1, ix2, ix3, ix4, ixl0, ixl1, gtP, ltP, leP, geP, addP, subP, absP, maxP, minP, intP, boolP, lenP, tupleP, listP, listC, sizeLine_eq]
            try (cases belB many a <;> simp)
            try (cases belB size a <;> simp)
          | a :: b :: c :: t, okr =>
            have l1 : ¬ ((t.length : Int) + 1 + 1 + 1 + 1 = 1) := by omega
            have l2 : ¬ ((t.length : Int) + 1 + 1 + 1 + 1 = 2) := by omega
            have l3 : ¬ ((t.length : Int) + 1 + 1 + 1 + 1 = 3) := by omega
            simp [b_is_instruction, insB, e0, in_s2, in_s3, eqP_str, neP_int, eqP_int, beq_lit, str_lit, l1, l2, l3, seqS, asgS, ifS, boolT, op2, retS, retN, dropS, varE, conE, blt, bltC, consA, nilA, tupT, subT, nmT, tsT, nxS, R.bind, R.bindS, opt, derefD, derefs, dats, datD, subV, callE, callK, pick, andT, orT, notT, truT, trueD, truP, andE, orE, notE, iteE, isiE, isiP, tupE, lstE, celE, chainE, negE, slcE, someO, noO, cutP, mtE, mnE, parS, seqI, srcD, rngI1, rngI2, rg1, rg2, lrgE, lrgC, trgE, forS, ix0, ix1, ix2, ix3, ix4, ixl0, ixl1, gtP, ltP, leP, geP, addP, subP, absP, maxP, minP, intP, boolP, lenP, tupleP, listP, listC, sizeLine_eq]
        · match r, okr with
          | [], _ => simp [b_is_instruction, insB, e0, in_s2, in_s3, eqP_str, neP_int, eqP_int, beq_lit, str_lit, seqS, asgS, ifS, boolT, op2, retS, retN, dropS, varE, conE, blt, bltC, consA, nilA, tupT, subT, nmT, tsT, nxS, R.bind, R.bindS, opt, derefD, derefs, dats, datD, subV, callE, callK, pick, andT, orT, notT, truT, trueD, truP, andE, orE, notE, iteE, isiE, isiP, tupE, lstE, celE, chainE, negE, slcE, someO, noO, cutP, mtE, mnE, parS, seqI, srcD, rngI1, rngI2, rg1, rg2, lrgE, lrgC, trgE, forS, ix0, ix1, ix2, ix3, ix4, ixl0, ixl1, gtP, ltP, leP, geP, addP, subP, absP, maxP, minP, intP, boolP, lenP, tupleP, listP, listC, sizeLine_eq]
          | [a], okr =>
            have k1 := fun m S => below_ok a m S
            have k2 := sumof_ok a many (okr a (by simp)).short S
            have k3 := sums_ok a (okr a (by simp)) many S
            simp [b_is_instruction, insB, e0, in_s2, in_s3, eqP_str, neP_int, eqP_int, beq_lit, str_lit, k1, k2, k3, non_is, seqS, asgS, ifS, boolT, op2, retS, retN, dropS, varE, conE, blt, bltC, consA, nilA, tupT, subT, nmT, tsT, nxS, R.bind, R.bindS, opt, derefD, derefs, dats, datD, subV, callE, callK, pick, andT, orT, notT, truT, trueD, truP, andE, orE, notE, iteE, isiE, isiP, tupE, lstE, celE, chainE, negE, slcE, someO, noO, cutP, mtE, mnE, parS, seqI, srcD, rngI1, rngI2, rg1, rg2, lrgE, lrgC, trgE, forS, ix0, ix1, ix2, ix3, ix4, ixl0, ixl1, gtP, ltP, leP, geP, addP, subP, absP, maxP, minP, intP, boolP, lenP, tupleP, listP, listC, sizeLine_eq]
            try (cases isNone a <;> simp)
          | [a, b], okr =>
            have k1 := fun m S => below_ok a m S
            have k2 := sumof_ok b many (okr b (by simp)).short S
            have k3 := sums_ok b (okr b (by simp)) many S
            simp [b_is_instruction, insB, e0, in_s2, in_s3, eqP_str, neP_int, eqP_int, beq_lit, str_lit, k1, k2, k3, seqS, asgS, ifS, boolT, op2, retS, retN, dropS, varE, conE, blt, bltC, consA, nilA, tupT, subT, nmT, tsT, nxS, R.bind, R.bindS, opt, derefD, derefs, dats, datD, subV, callE, callK, pick, andT, orT, notT, truT, trueD, truP, andE, orE, notE, iteE, isiE, isiP, tupE, lstE, celE, chainE, negE, slcE, someO, noO, cutP, mtE, mnE, parS, seqI, srcD, rngI1, rngI2, rg1, rg2, lrgE, lrgC, trgE, forS, ix0, ix1, ix2, ix3, ix4, ixl0, ixl1, gtP, ltP, leP, geP, addP, subP, absP, maxP, minP, intP, boolP, lenP, tupleP, listP, listC, sizeLine_eq]
            try (cases belB many a <;> simp)
            try (cases belB size a <;> simp)
          | a :: b :: c :: t, okr =>
            have l1 : ¬ ((t.length : Int) + 1 + 1 + 1 + 1 = 1) := by omega
            have l2 : ¬ ((t.length : Int) + 1 + 1 + 1 + 1 = 2) := by omega
            have l3 : ¬ ((t.length : Int) + 1 + 1 + 1 + 1 = 3) := by omega
            simp [b_is_instruction, insB, e0, in_s2, in_s3, eqP_str, neP_int, eqP_int, beq_lit, str_lit, l1, l2, l3, seqS, asgS, ifS, boolT, op2, retS, retN, dropS, varE, conE, blt, bltC, consA, nilA, tupT, subT, nmT, tsT, nxS, R.bind, R.bindS, opt, derefD, derefs, dats, datD, subV, callE, callK, pick, andT, orT, notT, truT, trueD, truP, andE, orE, notE, iteE, isiE, isiP, tupE, lstE, celE, chainE, negE, slcE, someO, noO, cutP, mtE, mnE, parS, seqI, srcD, rngI1, rngI2, rg1, rg2, lrgE, lrgC, trgE, forS, ix0, ix1, ix2, ix3, ix4, ixl0, ixl1, gtP, ltP, leP, geP, addP, subP, absP, maxP, minP, intP, boolP, lenP, tupleP, listP, listC, sizeLine_eq]
        · match r, okr with
          | [], _ => simp [b_is_instruction, insB, e0, in_s2, in_s3, eqP_str, neP_int, eqP_int, beq_lit, str_lit, seqS, asgS, ifS, boolT, op2, retS, retN, dropS, varE, conE, blt, bltC, consA, nilA, tupT, subT, nmT, tsT, nxS, R.bind, R.bindS, opt, derefD, derefs, dats, datD, subV, callE, callK, pick, andT, orT, notT, truT, trueD, truP, andE, orE, notE, iteE, isiE, isiP, tupE, lstE, celE, chainE, negE, slcE, someO, noO, cutP, mtE, mnE, parS, seqI, srcD, rngI1, rngI2, rg1, rg2, lrgE, lrgC, trgE, forS, ix0, ix1, ix2, ix3, ix4, ixl0, ixl1, gtP, ltP, leP, geP, addP, subP, absP, maxP, minP, intP, boolP, lenP, tupleP, listP, listC, sizeLine_eq]
          | [a], okr =>
            have k1 := fun m S => below_ok a m S
            have k2 := sumof_ok a many (okr a (by simp)).short S
            have k3 := sums_ok a (okr a (by simp)) many S
            simp [b_is_instruction, insB, e0, in_s2, in_s3, eqP_str, neP_int, eqP_int, beq_lit, str_lit, k1, k2, k3, non_is, seqS, asgS, ifS, boolT, op2, retS, retN, dropS, varE, conE, blt, bltC, consA, nilA, tupT, subT, nmT, tsT, nxS, R.bind, R.bindS, opt, derefD, derefs, dats, datD, subV, callE, callK, pick, andT, orT, notT, truT, trueD, truP, andE, orE, notE, iteE, isiE, isiP, tupE, lstE, celE, chainE, negE, slcE, someO, noO, cutP, mtE, mnE, parS, seqI, srcD, rngI1, rngI2, rg1, rg2, lrgE, lrgC, trgE, forS, ix0, ix1, ix2, ix3, ix4, ixl0, ixl1, gtP, ltP, leP, geP, addP, subP, absP, maxP, minP, intP, boolP, lenP, tupleP, listP, listC, sizeLine_eq]
            try (cases isNone a <;> simp)
          | [a, b], okr =>
            have k1 := fun m S => below_ok a m S
            have k2 := sumof_ok b many (okr b (by simp)).short S
            have k3 := sums_ok b (okr b (by simp)) many S
            simp [b_is_instruction, insB, e0, in_s2, in_s3, eqP_str, neP_int, eqP_int, beq_lit, str_lit, k1, k2, k3, seqS, asgS, ifS, boolT, op2, retS, retN, dropS, varE, conE, blt, bltC, consA, nilA, tupT, subT, nmT, tsT, nxS, R.bind, R.bindS, opt, derefD, derefs, dats, datD, subV, callE, callK, pick, andT, orT, notT, truT, trueD, truP, andE, orE, notE, iteE, isiE, isiP, tupE, lstE, celE, chainE, negE, slcE, someO, noO, cutP, mtE, mnE, parS, seqI, srcD, rngI1, rngI2, rg1, rg2, lrgE, lrgC, trgE, forS, ix0, ix1, ix2, ix3, ix4, ixl0, ixl1, gtP, ltP, leP, geP, addP, subP, absP, maxP, minP, intP, boolP, lenP, tupleP, listP, listC, sizeLine_eq]
            try (cases belB many a <;> simp)
            try (cases belB size a <;> simp)
          | a :: b :: c :: t, okr =>
            have l1 : ¬ ((t.length : Int) + 1 + 1 + 1 + 1 = 1) := by omega
            have l2 : ¬ ((t.length : Int) + 1 + 1 + 1 + 1 = 2) := by omega
            have l3 : ¬ ((t.length : Int) + 1 + 1 + 1 + 1 = 3) := by omega
            simp [b_is_instruction, insB, e0, in_s2, in_s3, eqP_str, neP_int, eqP_int, beq_lit, str_lit, l1, l2, l3, seqS, asgS, ifS, boolT, op2, retS, retN, dropS, varE, conE, blt, bltC, consA, nilA, tupT, subT, nmT, tsT, nxS, R.bind, R.bindS, opt, derefD, derefs, dats, datD, subV, callE, callK, pick, andT, orT, notT, truT, trueD, truP, andE, orE, notE, iteE, isiE, isiP, tupE, lstE, celE, chainE, negE, slcE, someO, noO, cutP, mtE, mnE, parS, seqI, srcD, rngI1, rngI2, rg1, rg2, lrgE, lrgC, trgE, forS, ix0, ix1, ix2, ix3, ix4, ixl0, ixl1, gtP, ltP, leP, geP, addP, subP, absP, maxP, minP, intP, boolP, lenP, tupleP, listP, listC, sizeLine_eq]
        · match r, okr with
          | [], _ => simp [b_is_instruction, insB, e0, in_s2, in_s3, eqP_str, neP_int, eqP_int, beq_lit, str_lit, seqS, asgS, ifS, boolT, op2, retS, retN, dropS, varE, conE, blt, bltC, consA, nilA, tupT, subT, nmT, tsT, nxS, R.bind, R.bindS, opt, derefD, derefs, dats, datD, subV, callE, callK, pick, andT, orT, notT, truT, trueD, truP, andE, orE, notE, iteE, isiE, isiP, tupE, lstE, celE, chainE, negE, slcE, someO, noO, cutP, mtE, mnE, parS, seqI, srcD, rngI1, rngI2, rg1, rg2, lrgE, lrgC, trgE, forS, ix0, ix1, ix2, ix3, ix4, ixl0, ixl1, gtP, ltP, leP, geP, addP, subP, absP, maxP, minP, intP, boolP, lenP, tupleP, listP, listC, sizeLine_eq]
          | [a], okr =>
            have k1 := fun m S => below_ok a m S
            have k2 := sumof_ok a many (okr a (by simp)).short S
            have k3 := sums_ok a (okr a (by simp)) many S
            simp [b_is_instruction, insB, e0, in_s2, in_s3, eqP_str, neP_int, eqP_int, beq_lit, str_lit, k1, k2, k3, non_is, seqS, asgS, ifS, boolT, op2, retS, retN, dropS, varE, conE, blt, bltC, consA, nilA, tupT, subT, nmT, tsT, nxS, R.bind, R.bindS, opt, derefD, derefs, dats, datD, subV, callE, callK, pick, andT, orT, notT, truT, trueD, truP, andE, orE, notE, iteE, isiE, isiP, tupE, lstE, celE, chainE, negE, slcE, someO, noO, cutP, mtE, mnE, parS, seqI, srcD, rngI1, rngI2, rg1, rg2, lrgE, lrgC, trgE, forS, ix0, ix1, ix2, ix3, ix4, ixl0, ixl1, gtP, ltP, leP, geP, addP, subP, absP, maxP, minP, intP, boolP, lenP, tupleP, listP, listC, sizeLine_eq]
            try (cases isNone a <;> simp)
          | [a, b], okr =>
            have k1 := fun m S => below_ok a m S
            have k2 := sumof_ok b many (okr b (by simp)).short S
            have k3 := sums_ok b (okr b (by simp)) many S
            simp [b_is_instruction, insB, e0, in_s2, in_s3, eqP_str, neP_int, eqP_int, beq_lit, str_lit, k1, k2, k3, seqS, asgS, ifS, boolT, op2, retS, retN, dropS, varE, conE, blt, bltC, consA, nilA, tupT, subT, nmT, tsT, nxS, R.bind, R.bindS, opt, derefD, derefs, dats, datD, subV, callE, callK, pick, andT, orT, notT, truT, trueD, truP, andE, orE, notE, iteE, isiE, isiP, tupE, lstE, celE, chainE, negE, slcE, someO, noO, cutP, mtE, mnE, parS, seqI, srcD, rngI1, rngI2, rg1, rg2, lrgE, lrgC, trgE, forS, ix0, ix1, ix2, ix3, ix4, ixl0, ixl1, gtP, ltP, leP, geP, addP, subP, absP, maxP, minP, intP, boolP, lenP, tupleP, listP, listC, sizeLine_eq]
            try (cases belB many a <;> simp)
            try (cases belB size a <;> simp)
          | a :: b :: c :: t, okr =>
            have l1 : ¬ ((t.length : Int) + 1 + 1 + 1 + 1 = 1) := by omega
            have l2 : ¬ ((t.length : Int) + 1 + 1 + 1 + 1 = 2) := by omega
            have l3 : ¬ ((t.length : Int) + 1 + 1 + 1 + 1 = 3) := by omega
            simp [b_is_instruction, insB, e0, in_s2, in_s3, eqP_str, neP_int, eqP_int, beq_lit, str_lit, l1, l2, l3, seqS, asgS, ifS, boolT, op2, retS, retN, dropS, varE, conE, blt, bltC, consA, nilA, tupT, subT, nmT, tsT, nxS, R.bind, R.bindS, opt, derefD, derefs, dats, datD, subV, callE, callK, pick, andT, orT, notT, truT, trueD, truP, andE, orE, notE, iteE, isiE, isiP, tupE, lstE, celE, chainE, negE, slcE, someO, noO, cutP, mtE, mnE, parS, seqI, srcD, rngI1, rngI2, rg1, rg2, lrgE, lrgC, trgE, forS, ix0, ix1, ix2, ix3, ix4, ixl0, ixl1, gtP, ltP, leP, geP, addP, subP, absP, maxP, minP, intP, boolP, lenP, tupleP, listP, listC, sizeLine_eq]
        · have q : insB many size (.tuple (.str w :: r)) = false := by
            simp only [insB, n0, n1, n2, n3, n4, n5, n6, n7, n8, n9, n10, or_self, if_false]
            split <;> rfl
          rw [q]
          have l0 : ¬ (0 : Int) = (r.length : Int) + 1 := by omega
          by_cases l2 : ((r.length : Int) + 1 = 2)
          · simp [b_is_instruction, e0, in_s2, in_s3, eqP_str, neP_int, eqP_int, ne_beq n0, ne_beq n1, ne_beq n2, ne_beq n3, ne_beq n4, ne_beq n5, ne_beq n6, ne_beq n7, ne_beq n8, ne_beq n9, ne_beq n10, l2, seqS, asgS, ifS, boolT, op2, retS, retN, dropS, varE, conE, blt, bltC, consA, nilA, tupT, subT, nmT, tsT, nxS, R.bind, R.bindS, opt, derefD, derefs, dats, datD, subV, callE, callK, pick, andT, orT, notT, truT, trueD, truP, andE, orE, notE, iteE, isiE, isiP, tupE, lstE, celE, chainE, negE, slcE, someO, noO, cutP, mtE, mnE, parS, seqI, srcD, rngI1, rngI2, rg1, rg2, lrgE, lrgC, trgE, forS, ix0, ix1, ix2, ix3, ix4, ixl0, ixl1, gtP, ltP, leP, geP, addP, subP, absP, maxP, minP, intP, boolP, lenP, tupleP, listP, listC, sizeLine_eq]
          · simp [b_is_instruction, e0, in_s2, in_s3, eqP_str, neP_int, eqP_int, ne_beq n0, ne_beq n1, ne_beq n2, ne_beq n3, ne_beq n4, ne_beq n5, ne_beq n6, ne_beq n7, ne_beq n8, ne_beq n9, ne_beq n10, l2, seqS, asgS, ifS, boolT, op2, retS, retN, dropS, varE, conE, blt, bltC, consA, nilA, tupT, subT, nmT, tsT, nxS, R.bind, R.bindS, opt, derefD, derefs, dats, datD, subV, callE, callK, pick, andT, orT, notT, truT, trueD, truP, andE, orE, notE, iteE, isiE, isiP, tupE, lstE, celE, chainE, negE, slcE, someO, noO, cutP, mtE, mnE, parS, seqI, srcD, rngI1, rngI2, rg1, rg2, lrgE, lrgC, trgE, forS, ix0, ix1, ix2, ix3, ix4, ixl0, ixl1, gtP, ltP, leP, geP, addP, subP, absP, maxP, minP, intP, boolP, lenP, tupleP, listP, listC, sizeLine_eq]
      | _ => simp [b_is_instruction, insB, e0, seqS, asgS, ifS, boolT, op2, retS, retN, dropS, varE, conE, blt, bltC, consA, nilA, tupT, subT, nmT, tsT, nxS, R.bind, R.bindS, opt, derefD, derefs, dats, datD, subV, callE, callK, pick, andT, orT, notT, truT, trueD, truP, andE, orE, notE, iteE, isiE, isiP, tupE, lstE, celE, chainE, negE, slcE, someO, noO, cutP, mtE, mnE, parS, seqI, srcD, rngI1, rngI2, rg1, rg2, lrgE, lrgC, trgE, forS, ix0, ix1, ix2, ix3, ix4, ixl0, ixl1, gtP, ltP, leP, geP, addP, subP, absP, maxP, minP, intP, boolP, lenP, tupleP, listP, listC, sizeLine_eq]
  | _ => simp [b_is_instruction, insB, seqS, asgS, ifS, boolT, op2, retS, retN, dropS, varE, conE, blt, bltC, consA, nilA, tupT, subT, nmT, tsT, nxS, R.bind, R.bindS, opt, derefD, derefs, dats, datD, subV, callE, callK, pick, andT, orT, notT, truT, trueD, truP, andE, orE, notE, iteE, isiE, isiP, tupE, lstE, celE, chainE, negE, slcE, someO, noO, cutP, mtE, mnE, parS, seqI, srcD, rngI1, rngI2, rg1, rg2, lrgE, lrgC, trgE, forS, ix0, ix1, ix2, ix3, ix4, ixl0, ixl1, gtP, ltP, leP, geP, addP, subP, absP, maxP, minP, intP, boolP, lenP, tupleP, listP, listC, sizeLine_eq]
theorem beq_dec (w : Str) (a : Str) : (w == a) = decide (w = a) := by
  rw [Bool.eq_iff_iff, beq_iff_eq, decide_eq_true_iff]
theorem bdec_int (a b : Int) : (a == b) = decide (a = b) := by
  rw [Bool.eq_iff_iff, beq_iff_eq, decide_eq_true_iff]
/-! ### lines -/
def endsL : List PD := [.str "leave", .str "back", .str "stop", .str "go", .str "jump"]
def lineB : PD → Bool
  | .tuple [.str w, m, .tuple is] =>
    match m with
    | .int many => decide (w = "line") && belB 9 (.int many) && decide (1 ≤ is.length) && decide (is.length ≤ 1000) && is.all (insB many is.length) && (match is.getLast? with | some (.tuple (.str e :: _)) => decide (e = "leave") || (decide (e = "back") || (decide (e = "stop") || (decide (e = "go") || decide (e = "jump")))) | _ => false)
    | _ => false
  | _ => false
theorem ne_line (a : PD) (ha : ∀ kvs, a ≠ .dict kvs) : neP a (.str "line") = some (.bool (match a with | .str w => !(w == Str.ofString "line") | _ => true)) := by
  cases a with
  | dict kvs => exact (ha kvs rfl).elim
  | _ => rfl
theorem ins_head {many size : Int} {v : PD} (h : insB many size v = true) : ∃ w r, v = .tuple (.str w :: r) := by
  unfold insB at h
  split at h
  · exact ⟨_, _, rfl⟩
  · cases h
theorem line_ok (v : PD) (hv : Ok v) (S : Store) : F_is_line [.dat v] S = .ok (.dat (.bool (lineB v))) S := by
  refine fnM_dat ?_ rfl
  have h3 := tupof_ok v 3 S
  cases v with
  | tuple ds =>
    match ds, hv with
    | [], _ => simp [b_is_line, lineB, h3, tupB, seqS, asgS, ifS, boolT, op2, retS, retN, dropS, varE, conE, blt, bltC, consA, nilA, tupT, subT, nmT, tsT, nxS, R.bind, R.bindS, opt, derefD, derefs, dats, datD, subV, callE, callK, pick, andT, orT, notT, truT, trueD, truP, andE, orE, notE, iteE, isiE, isiP, tupE, lstE, celE, chainE, negE, slcE, someO, noO, cutP, mtE, mnE, parS, seqI, srcD, rngI1, rngI2, rg1, rg2, lrgE, lrgC, trgE, forS, ix0, ix1, ix2, ix3, ix4, ixl0, ixl1, gtP, ltP, leP, geP, addP, subP, absP, maxP, minP, intP, boolP, lenP, tupleP, listP, listC, sizeLine_eq]
    | [a], _ => simp [b_is_line, lineB, h3, tupB, seqS, asgS, ifS, boolT, op2, retS, retN, dropS, varE, conE, blt, bltC, consA, nilA, tupT, subT, nmT, tsT, nxS, R.bind, R.bindS, opt, derefD, derefs, dats, datD, subV, callE, callK, pick, andT, orT, notT, truT, trueD, truP, andE, orE, notE, iteE, isiE, isiP, tupE, lstE, celE, chainE, negE, slcE, someO, noO, cutP, mtE, mnE, parS, seqI, srcD, rngI1, rngI2, rg1, rg2, lrgE, lrgC, trgE, forS, ix0, ix1, ix2, ix3, ix4, ixl0, ixl1, gtP, ltP, leP, geP, addP, subP, absP, maxP, minP, intP, boolP, lenP, tupleP, listP, listC, sizeLine_eq]
    | [a, b], _ => simp [b_is_line, lineB, h3, tupB, seqS, asgS, ifS, boolT, op2, retS, retN, dropS, varE, conE, blt, bltC, consA, nilA, tupT, subT, nmT, tsT, nxS, R.bind, R.bindS, opt, derefD, derefs, dats, datD, subV, callE, callK, pick, andT, orT, notT, truT, trueD, truP, andE, orE, notE, iteE, isiE, isiP, tupE, lstE, celE, chainE, negE, slcE, someO, noO, cutP, mtE, mnE, parS, seqI, srcD, rngI1, rngI2, rg1, rg2, lrgE, lrgC, trgE, forS, ix0, ix1, ix2, ix3, ix4, ixl0, ixl1, gtP, ltP, leP, geP, addP, subP, absP, maxP, minP, intP, boolP, lenP, tupleP, listP, listC, sizeLine_eq]
    | a :: b :: c :: d :: r, _ =>
      have l : ¬ ((r.length : Int) + 1 + 1 + 1 + 1 = 3) := by omega
      simp [b_is_line, lineB, h3, tupB, l, seqS, asgS, ifS, boolT, op2, retS, retN, dropS, varE, conE, blt, bltC, consA, nilA, tupT, subT, nmT, tsT, nxS, R.bind, R.bindS, opt, derefD, derefs, dats, datD, subV, callE, callK, pick, andT, orT, notT, truT, trueD, truP, andE, orE, notE, iteE, isiE, isiP, tupE, lstE, celE, chainE, negE, slcE, someO, noO, cutP, mtE, mnE, parS, seqI, srcD, rngI1, rngI2, rg1, rg2, lrgE, lrgC, trgE, forS, ix0, ix1, ix2, ix3, ix4, ixl0, ixl1, gtP, ltP, leP, geP, addP, subP, absP, maxP, minP, intP, boolP, lenP, tupleP, listP, listC, sizeLine_eq]
    | [a, b, c], hv =>
      have na := ne_line a fun kvs e => by subst e; exact (hv.tup.2 (.dict kvs) (by simp)).noDict
      have hb := below_ok b 9 S
      cases a with
      | str w =>
        by_cases hw : w = "line"
        · subst hw
          cases hbb : belB 9 b with
          | false =>
            have q : lineB (.tuple [.str "line", b, c]) = false := by
              cases b <;> cases c <;> simp_all [lineB]
            simp [b_is_line, h3, tupB, na, hb, hbb, q, seqS, asgS, ifS, boolT, op2, retS, retN, dropS, varE, conE, blt, bltC, consA, nilA, tupT, subT, nmT, tsT, nxS, R.bind, R.bindS, opt, derefD, derefs, dats, datD, subV, callE, callK, pick, andT, orT, notT, truT, trueD, truP, andE, orE, notE, iteE, isiE, isiP, tupE, lstE, celE, chainE, negE, slcE, someO, noO, cutP, mtE, mnE, parS, seqI, srcD, rngI1, rngI2, rg1, rg2, lrgE, lrgC, trgE, forS, ix0, ix1, ix2, ix3, ix4, ixl0, ixl1, gtP, ltP, leP, geP, addP, subP, absP, maxP, minP, intP, boolP, lenP, tupleP, listP, listC, sizeLine_eq]
          | true =>
            cases b with
            | int many =>
              cases c with
              | tuple is =>
                by_cases l1 : is.length < 1
                · have e : is = [] := List.eq_nil_of_length_eq_zero (by omega)
                  subst e
                  simp [b_is_line, h3, tupB, na, hb, hbb, lineB, seqS, asgS, ifS, boolT, op2, retS, retN, dropS, varE, conE, blt, bltC, consA, nilA, tupT, subT, nmT, tsT, nxS, R.bind, R.bindS, opt, derefD, derefs, dats, datD, subV, callE, callK, pick, andT, orT, notT, truT, trueD, truP, andE, orE, notE, iteE, isiE, isiP, tupE, lstE, celE, chainE, negE, slcE, someO, noO, cutP, mtE, mnE, parS, seqI, srcD, rngI1, rngI2, rg1, rg2, lrgE, lrgC, trgE, forS, ix0, ix1, ix2, ix3, ix4, ixl0, ixl1, gtP, ltP, leP, geP, addP, subP, absP, maxP, minP, intP, boolP, lenP, tupleP, listP, listC, sizeLine_eq]
                by_cases l2 : 1000 < is.length
                · have l3 : ¬ (is.length : Int) ≤ 1000 := by omega
                  have l4 : (1 : Int) ≤ (is.length : Int) := by omega
                  have l5 : ¬ is.length ≤ 1000 := by omega
                  simp [b_is_line, h3, tupB, na, hb, hbb, lineB, l3, l4, l5, seqS, asgS, ifS, boolT, op2, retS, retN, dropS, varE, conE, blt, bltC, consA, nilA, tupT, subT, nmT, tsT, nxS, R.bind, R.bindS, opt, derefD, derefs, dats, datD, subV, callE, callK, pick, andT, orT, notT, truT, trueD, truP, andE, orE, notE, iteE, isiE, isiP, tupE, lstE, celE, chainE, negE, slcE, someO, noO, cutP, mtE, mnE, parS, seqI, srcD, rngI1, rngI2, rg1, rg2, lrgE, lrgC, trgE, forS, ix0, ix1, ix2, ix3, ix4, ixl0, ixl1, gtP, ltP, leP, geP, addP, subP, absP, maxP, minP, intP, boolP, lenP, tupleP, listP, listC, sizeLine_eq]
                have l3 : (is.length : Int) ≤ 1000 := by omega
                have l4 : (1 : Int) ≤ (is.length : Int) := by omega
                have l5 : is.length ≤ 1000 := by omega
                have l6 : 1 ≤ is.length := by omega
                have okc : Ok (.tuple is) := hv.tup.2 _ (by simp)
                have hc : ∀ z, c_is_line_0 [some (.dat (.tuple [.str "line", .int many, .tuple is])), some (.dat (.int many)), some (.dat (.tuple is)), z] S = .ok (.dat (.list (is.map fun p => .bool (insB many is.length p)))) S := fun z => by
                  refine lcE_pure (fun p => .bool (insB many is.length p)) (by simp [seqI, varE, srcD, opt, R.bind]) (fun p hp => ⟨[some (.dat (.tuple [.str "line", .int many, .tuple is])), some (.dat (.int many)), some (.dat (.tuple is)), some (.dat p)], by simp [nmT, wipeD], ?_⟩) (by rw [sizeLine_eq]; omega)
                  have := ins_ok p (okc.tup.2 p hp) many is.length S
                  simp [this, seqS, asgS, ifS, boolT, op2, retS, retN, dropS, varE, conE, blt, bltC, consA, nilA, tupT, subT, nmT, tsT, nxS, R.bind, R.bindS, opt, derefD, derefs, dats, datD, subV, callE, callK, pick, andT, orT, notT, truT, trueD, truP, andE, orE, notE, iteE, isiE, isiP, tupE, lstE, celE, chainE, negE, slcE, someO, noO, cutP, mtE, mnE, parS, seqI, srcD, rngI1, rngI2, rg1, rg2, lrgE, lrgC, trgE, forS, ix0, ix1, ix2, ix3, ix4, ixl0, ixl1, gtP, ltP, leP, geP, addP, subP, absP, maxP, minP, intP, boolP, lenP, tupleP, listP, listC, sizeLine_eq]
                cases hall : is.all (insB many is.length) with
                | false => simp [b_is_line, h3, tupB, na, hb, hbb, lineB, l3, l4, l5, l6, hc, allP_map, hall, seqS, asgS, ifS, boolT, op2, retS, retN, dropS, varE, conE, blt, bltC, consA, nilA, tupT, subT, nmT, tsT, nxS, R.bind, R.bindS, opt, derefD, derefs, dats, datD, subV, callE, callK, pick, andT, orT, notT, truT, trueD, truP, andE, orE, notE, iteE, isiE, isiP, tupE, lstE, celE, chainE, negE, slcE, someO, noO, cutP, mtE, mnE, parS, seqI, srcD, rngI1, rngI2, rg1, rg2, lrgE, lrgC, trgE, forS, ix0, ix1, ix2, ix3, ix4, ixl0, ixl1, gtP, ltP, leP, geP, addP, subP, absP, maxP, minP, intP, boolP, lenP, tupleP, listP, listC, sizeLine_eq]
                | true =>
                  have nn : is ≠ [] := fun e => by rw [e] at l6; simp at l6
                  have il := ixlast is nn
                  obtain ⟨e, r, he⟩ := ins_head (List.all_eq_true.mp hall (is.getLast nn) (List.getLast_mem nn))
                  have gl : is.getLast? = some (.tuple (.str e :: r)) := by rw [List.getLast?_eq_some_getLast nn, he]
                  rw [he] at il
                  simp [b_is_line, h3, tupB, na, hb, hbb, lineB, l3, l4, l5, l6, hc, allP_map, hall, gl, il, in_s5, beq_dec, seqS, asgS, ifS, boolT, op2, retS, retN, dropS, varE, conE, blt, bltC, consA, nilA, tupT, subT, nmT, tsT, nxS, R.bind, R.bindS, opt, derefD, derefs, dats, datD, subV, callE, callK, pick, andT, orT, notT, truT, trueD, truP, andE, orE, notE, iteE, isiE, isiP, tupE, lstE, celE, chainE, negE, slcE, someO, noO, cutP, mtE, mnE, parS, seqI, srcD, rngI1, rngI2, rg1, rg2, lrgE, lrgC, trgE, forS, ix0, ix1, ix2, ix3, ix4, ixl0, ixl1, gtP, ltP, leP, geP, addP, subP, absP, maxP, minP, intP, boolP, lenP, tupleP, listP, listC, sizeLine_eq]
              | _ => simp [b_is_line, h3, tupB, na, hb, hbb, lineB, seqS, asgS, ifS, boolT, op2, retS, retN, dropS, varE, conE, blt, bltC, consA, nilA, tupT, subT, nmT, tsT, nxS, R.bind, R.bindS, opt, derefD, derefs, dats, datD, subV, callE, callK, pick, andT, orT, notT, truT, trueD, truP, andE, orE, notE, iteE, isiE, isiP, tupE, lstE, celE, chainE, negE, slcE, someO, noO, cutP, mtE, mnE, parS, seqI, srcD, rngI1, rngI2, rg1, rg2, lrgE, lrgC, trgE, forS, ix0, ix1, ix2, ix3, ix4, ixl0, ixl1, gtP, ltP, leP, geP, addP, subP, absP, maxP, minP, intP, boolP, lenP, tupleP, listP, listC, sizeLine_eq]
            | _ => simp [belB] at hbb
        · have hw2 := ne_beq hw
          have q : lineB (.tuple [.str w, b, c]) = false := by
            cases b <;> cases c <;> simp [lineB, hw]
          simp [b_is_line, h3, tupB, na, hw2, q, seqS, asgS, ifS, boolT, op2, retS, retN, dropS, varE, conE, blt, bltC, consA, nilA, tupT, subT, nmT, tsT, nxS, R.bind, R.bindS, opt, derefD, derefs, dats, datD, subV, callE, callK, pick, andT, orT, notT, truT, trueD, truP, andE, orE, notE, iteE, isiE, isiP, tupE, lstE, celE, chainE, negE, slcE, someO, noO, cutP, mtE, mnE, parS, seqI, srcD, rngI1, rngI2, rg1, rg2, lrgE, lrgC, trgE, forS, ix0, ix1, ix2, ix3, ix4, ixl0, ixl1, gtP, ltP, leP, geP, addP, subP, absP, maxP, minP, intP, boolP, lenP, tupleP, listP, listC, sizeLine_eq]
      | _ => simp [b_is_line, h3, tupB, na, lineB, seqS, asgS, ifS, boolT, op2, retS, retN, dropS, varE, conE, blt, bltC, consA, nilA, tupT, subT, nmT, tsT, nxS, R.bind, R.bindS, opt, derefD, derefs, dats, datD, subV, callE, callK, pick, andT, orT, notT, truT, trueD, truP, andE, orE, notE, iteE, isiE, isiP, tupE, lstE, celE, chainE, negE, slcE, someO, noO, cutP, mtE, mnE, parS, seqI, srcD, rngI1, rngI2, rg1, rg2, lrgE, lrgC, trgE, forS, ix0, ix1, ix2, ix3, ix4, ixl0, ixl1, gtP, ltP, leP, geP, addP, subP, absP, maxP, minP, intP, boolP, lenP, tupleP, listP, listC, sizeLine_eq]
  | _ => simp [b_is_line, lineB, h3, tupB, seqS, asgS, ifS, boolT, op2, retS, retN, dropS, varE, conE, blt, bltC, consA, nilA, tupT, subT, nmT, tsT, nxS, R.bind, R.bindS, opt, derefD, derefs, dats, datD, subV, callE, callK, pick, andT, orT, notT, truT, trueD, truP, andE, orE, notE, iteE, isiE, isiP, tupE, lstE, celE, chainE, negE, slcE, someO, noO, cutP, mtE, mnE, parS, seqI, srcD, rngI1, rngI2, rg1, rg2, lrgE, lrgC, trgE, forS, ix0, ix1, ix2, ix3, ix4, ixl0, ixl1, gtP, ltP, leP, geP, addP, subP, absP, maxP, minP, intP, boolP, lenP, tupleP, listP, listC, sizeLine_eq]
end DL.k63

set_option Elab.async false
set_option linter.all false
set_option maxRecDepth 100000
set_option maxHeartbeats 4000000
namespace DL.k63
open PySem PySem.Spec PyProof.Rows L2 DL
/-! ### what is drawn -/
theorem num_ok {l : List PD} (hl : Pot l) (A T : Store) : ∃ (i : Int) (l' : List PD), F_law_number [.ref A.length] (A ++ l :: T) = .ok (.dat (.int i)) (A ++ l' :: T) ∧ -1000000000 ≤ i ∧ i ≤ 1000000000 ∧ Pot l' := by
  obtain ⟨r, l1, e1, r0, r1, hl1⟩ := draw_ok (m := 2001) hl (by omega) (by omega) A T
  obtain ⟨v, l2, e2, hv, hl2⟩ := pick_ok (ds := [.int 0, .int 1, .int (-1), .int 2, .int 3, .int 63, .int 64, .int (-64), .int (-65), .int 8191, .int 8192, .int (-8193), .int 1000000000, .int (-1000000000), .int (r - 1000)]) hl1 A T (by simp) (by simp)
  have : ∃ i : Int, v = .int i ∧ -1000000000 ≤ i ∧ i ≤ 1000000000 := by
    simp only [List.mem_cons, List.not_mem_nil, or_false] at hv
    rcases hv with rfl | rfl | rfl | rfl | rfl | rfl | rfl | rfl | rfl | rfl | rfl | rfl | rfl | rfl | rfl <;> exact ⟨_, rfl, by omega, by omega⟩
  obtain ⟨i, rfl, h1, h2⟩ := this
  refine ⟨i, l2, fnM_dat ?_ (by simp), h1, h2, hl2⟩
  simp [b_law_number, e1, e2, pow9, seqS, asgS, ifS, boolT, op2, retS, retN, dropS, varE, conE, blt, bltC, consA, nilA, tupT, subT, nmT, tsT, nxS, R.bind, R.bindS, opt, derefD, derefs, dats, datD, subV, callE, callK, pick, andT, orT, notT, truT, trueD, truP, andE, orE, notE, iteE, isiE, isiP, tupE, lstE, celE, chainE, negE, slcE, someO, noO, cutP, mtE, mnE, parS, seqI, srcD, rngI1, rngI2, rg1, rg2, lrgE, lrgC, trgE, forS, ix0, ix1, ix2, ix3, ix4, ixl0, ixl1, gtP, ltP, leP, geP, addP, subP, absP, maxP, minP, intP, boolP, lenP, tupleP, listP, listC, sizeLine_eq]
/-- a row of terms, as it grows -/
structure Tm (many : Int) (k : Nat) (ts : List PD) : Prop where
  all : ts.all (tmB many) = true
  up : rise (ts.map fstI) = true
  lt : ∀ t ∈ ts, fstI t < k
  len : ts.length ≤ k
  two : ∀ t ∈ ts, ∃ a b : Int, t = .tuple [.int a, .int b] ∧ 0 ≤ a ∧ a < many ∧ -1000000000 ≤ b ∧ b ≤ 1000000000
theorem rise_snoc : ∀ (xs : List Int) (a : Int), rise xs = true → (∀ x ∈ xs, x < a) → rise (xs ++ [a]) = true
  | [], _, _, _ => rfl
  | [x], a, _, h => by simp [rise]; exact h x (by simp)
  | x :: y :: r, a, h1, h2 => by
    simp only [rise, Bool.and_eq_true] at h1
    simp only [List.cons_append, rise, Bool.and_eq_true]
    exact ⟨h1.1, rise_snoc (y :: r) a h1.2 fun z hz => h2 z (List.mem_cons_of_mem _ hz)⟩
theorem Tm.more {many : Int} {k : Nat} {ts : List PD} (h : Tm many k ts) : Tm many (k + 1) ts := ⟨h.all, h.up, fun t ht => by have := h.lt t ht; omega, by have := h.len; omega, h.two⟩
theorem Tm.add {many : Int} {k : Nat} {ts : List PD} (h : Tm many k ts) (hk : (k : Int) < many) {b : Int} (h0 : b ≠ 0) (h1 : -1000000000 ≤ b) (h2 : b ≤ 1000000000) : Tm many (k + 1) (ts ++ [.tuple [.int (k : Nat), .int b]]) := by
  refine ⟨?_, ?_, fun t ht => ?_, by rw [List.length_append]; have := h.len; simp; omega, fun t ht => ?_⟩
  · rw [List.all_append, h.all]
    simp [tmB, hk, h0, h1, h2]
  · rw [List.map_append]
    refine rise_snoc _ _ h.up fun x hx => ?_
    obtain ⟨t, ht, rfl⟩ := List.mem_map.mp hx
    exact h.lt t ht
  · rcases List.mem_append.mp ht with z | z
    · have := h.lt t z; omega
    · rw [List.mem_singleton] at z; subst z; simp [fstI]; omega
  · rcases List.mem_append.mp ht with z | z
    · exact h.two t z
    · rw [List.mem_singleton] at z; subst z; exact ⟨_, _, rfl, by omega, hk, h1, h2⟩
theorem sbody_ok {l : List PD} (hl : Pot l) (A T : Store) (many : Int) (k : Nat) (hk : (k : Int) < many) (ts : List PD) (ht : Tm many k ts) (hs : k ≤ 8) (x : Option D) :
    ∃ l' ts' y, lb_law_sum_0 [some (.ref A.length), some (.dat (.int many)), some (.ref (A.length + (T.length + 1))), some (.dat (.int (k : Nat))), x] (A ++ l :: (T ++ [ts])) =
      .ok (.nx [some (.ref A.length), some (.dat (.int many)), some (.ref (A.length + (T.length + 1))), some (.dat (.int (k : Nat))), y]) (A ++ l' :: (T ++ [ts'])) ∧ Pot l' ∧ Tm many (k + 1) ts' := by
  obtain ⟨r, l1, e1, r0, r1, hl1⟩ := draw_ok (m := 3) hl (by omega) (by omega) A (T ++ [ts])
  have hlen := ht.len
  by_cases hr : r = 0
  · subst hr
    obtain ⟨i, l2, e2, h1, h2, hl2⟩ := num_ok hl1 A (T ++ [ts])
    by_cases h0 : i = 0
    · subst h0
      refine ⟨l2, ts, some (.dat (.int 0)), ?_, hl2, ht.more⟩
      simp [lb_law_sum_0, e1, e2, eqP_int, neP_int, seqS, asgS, ifS, boolT, op2, retS, retN, dropS, varE, conE, blt, bltC, consA, nilA, tupT, subT, nmT, tsT, nxS, R.bind, R.bindS, opt, derefD, derefs, dats, datD, subV, callE, callK, pick, andT, orT, notT, truT, trueD, truP, andE, orE, notE, iteE, isiE, isiP, tupE, lstE, celE, chainE, negE, slcE, someO, noO, cutP, mtE, mnE, parS, seqI, srcD, rngI1, rngI2, rg1, rg2, lrgE, lrgC, trgE, forS, ix0, ix1, ix2, ix3, ix4, ixl0, ixl1, gtP, ltP, leP, geP, addP, subP, absP, maxP, minP, intP, boolP, lenP, tupleP, listP, listC, sizeLine_eq]
    · refine ⟨l2, ts ++ [.tuple [.int (k : Nat), .int i]], some (.dat (.int i)), ?_, hl2, ht.add hk h0 h1 h2⟩
      have hz : ts.length < 16777216 := by omega
      simp [lb_law_sum_0, e1, e2, h0, eqP_int, neP_int, appP, get_end, set_end, hz, seqS, asgS, ifS, boolT, op2, retS, retN, dropS, varE, conE, blt, bltC, consA, nilA, tupT, subT, nmT, tsT, nxS, R.bind, R.bindS, opt, derefD, derefs, dats, datD, subV, callE, callK, pick, andT, orT, notT, truT, trueD, truP, andE, orE, notE, iteE, isiE, isiP, tupE, lstE, celE, chainE, negE, slcE, someO, noO, cutP, mtE, mnE, parS, seqI, srcD, rngI1, rngI2, rg1, rg2, lrgE, lrgC, trgE, forS, ix0, ix1, ix2, ix3, ix4, ixl0, ixl1, gtP, ltP, leP, geP, addP, subP, absP, maxP, minP, intP, boolP, lenP, tupleP, listP, listC, sizeLine_eq]
  · refine ⟨l1, ts, some (.dat (.int 0)), ?_, hl1, ht.more⟩
    simp [lb_law_sum_0, e1, hr, eqP_int, neP_int, seqS, asgS, ifS, boolT, op2, retS, retN, dropS, varE, conE, blt, bltC, consA, nilA, tupT, subT, nmT, tsT, nxS, R.bind, R.bindS, opt, derefD, derefs, dats, datD, subV, callE, callK, pick, andT, orT, notT, truT, trueD, truP, andE, orE, notE, iteE, isiE, isiP, tupE, lstE, celE, chainE, negE, slcE, someO, noO, cutP, mtE, mnE, parS, seqI, srcD, rngI1, rngI2, rg1, rg2, lrgE, lrgC, trgE, forS, ix0, ix1, ix2, ix3, ix4, ixl0, ixl1, gtP, ltP, leP, geP, addP, subP, absP, maxP, minP, intP, boolP, lenP, tupleP, listP, listC, sizeLine_eq]
theorem sloop_ok (A T : Store) (many : Int) (src : Src) (hs : ∀ S, src.ok S) : ∀ (n k : Nat) (l ts : List PD) (x y : Option D), Pot l → Tm many k ts → (k + n : Nat) = many.toNat → many ≤ 8 → ∃ l' ts' x' y', forF src (nmT 3) lb_law_sum_0 ((List.range' k n).map fun i => .int (i : Nat)) [some (.ref A.length), some (.dat (.int many)), some (.ref (A.length + (T.length + 1))), x, y] (A ++ l :: (T ++ [ts])) =
      .ok (.nx [some (.ref A.length), some (.dat (.int many)), some (.ref (A.length + (T.length + 1))), x', y']) (A ++ l' :: (T ++ [ts'])) ∧ Pot l' ∧ Tm many (k + n) ts'
  | 0, k, l, ts, x, y, hl, ht, hn, h8 => ⟨l, ts, x, y, by rw [List.range'_zero, List.map_nil, forF_nil (hs _)], hl, ht⟩
  | n + 1, k, l, ts, x, y, hl, ht, hn, h8 => by
    obtain ⟨l1, ts1, y1, e1, hl1, ht1⟩ := sbody_ok hl A T many k (by omega) ts ht (by omega) y
    obtain ⟨l2, ts2, x2, y2, e2, hl2, ht2⟩ := sloop_ok A T many src hs n (k + 1) l1 ts1 (some (.dat (.int (k : Nat)))) y1 hl1 ht1 (by omega) h8
    refine ⟨l2, ts2, x2, y2, ?_, hl2, by rw [show k + (n + 1) = k + 1 + n by omega]; exact ht2⟩
    rw [List.range'_succ, List.map_cons, forF_step (hs _) (δ1 := [some (.ref A.length), some (.dat (.int many)), some (.ref (A.length + (T.length + 1))), some (.dat (.int (k : Nat))), y]) (S1 := A ++ l :: (T ++ [ts])) (by simp [nmT]) e1, e2]
theorem rangeL_0 (n : Nat) : rangeL 0 n = (List.range' 0 n).map fun i => .int (i : Nat) := by
  rw [rangeL, List.range_eq_range']
  simp
/-- a sum as it is drawn -/
structure Sm (many : Int) (v : PD) : Prop where
  is : smB many v = true
  gd : Gd 1000000000 3 v
  sz : sz v ≤ 27
theorem dsum_ok {l : List PD} (hl : Pot l) (A T : Store) (many : Int) (m0 : 0 ≤ many) (m8 : many ≤ 8) : ∃ v l', F_law_sum [.ref A.length, .dat (.int many)] (A ++ l :: T) = .ok (.dat v) (A ++ l' :: T) ∧ Sm many v ∧ Pot l' := by
  have t0 : Tm many 0 [] := ⟨rfl, rfl, fun _ h => by simp at h, Nat.le_refl _, fun _ h => by simp at h⟩
  obtain ⟨l1, ts, x1, y1, e1, hl1, ht⟩ := sloop_ok A T many ⟨rangeL 0 many.toNat, []⟩ (fun S => ok_nil) many.toNat 0 l [] none none hl t0 (by omega) m8
  obtain ⟨c, l2, e2, c1, c2, hl2⟩ := num_ok hl1 A (T ++ [ts])
  rw [← rangeL_0] at e1
  have hb : -(2 ^ 62 : Int) ≤ many ∧ many < 2 ^ 62 := by omega
  refine ⟨.tuple [.int c, .tuple ts], l2, (fnM_ret (S' := A ++ l2 :: (T ++ [ts])) ?_).trans (by rw [take_end]), ⟨?_, ?_, ?_⟩, hl2⟩
  · have hloop : l_law_sum_1 [some (.ref A.length), some (.dat (.int many)), some (.ref (A.length + (T.length + 1))), none, none] (A ++ l :: (T ++ [[]])) = .ok (.nx [some (.ref A.length), some (.dat (.int many)), some (.ref (A.length + (T.length + 1))), x1, y1]) (A ++ l1 :: (T ++ [ts])) := by
      simp only [l_law_sum_1, forS, rngI1, varE, R.bind, R.bindS, List.getElem?_cons_succ, List.getElem?_cons_zero]
      rw [if_pos (by omega)]
      exact e1
    have hz : ts.length ≤ 16777216 := by have := ht.len; omega
    simp [b_law_sum, hloop, e2, get_end, hz, seqS, asgS, ifS, boolT, op2, retS, retN, dropS, varE, conE, blt, bltC, consA, nilA, tupT, subT, nmT, tsT, nxS, R.bind, R.bindS, opt, derefD, derefs, dats, datD, subV, callE, callK, pick, andT, orT, notT, truT, trueD, truP, andE, orE, notE, iteE, isiE, isiP, tupE, lstE, celE, chainE, negE, slcE, someO, noO, cutP, mtE, mnE, parS, seqI, srcD, rngI1, rngI2, rg1, rg2, lrgE, lrgC, trgE, forS, ix0, ix1, ix2, ix3, ix4, ixl0, ixl1, gtP, ltP, leP, geP, addP, subP, absP, maxP, minP, intP, boolP, lenP, tupleP, listP, listC, sizeLine_eq]
  · simp only [smB, amtB, ht.all, ht.up, Bool.and_true, Bool.and_eq_true, decide_eq_true_eq]
    exact ⟨by omega, by omega⟩
  · refine Gd.tup fun x hx => ?_
    simp only [List.mem_cons, List.not_mem_nil, or_false] at hx
    rcases hx with rfl | rfl
    · exact gd_int (by omega)
    · refine Gd.tup fun t ht' => ?_
      obtain ⟨a, b, rfl, a0, a1, b0, b1⟩ := ht.two t ht'
      refine Gd.tup fun x hx => ?_
      simp only [List.mem_cons, List.not_mem_nil, or_false] at hx
      rcases hx with rfl | rfl
      · exact gd_int (by omega)
      · exact gd_int (by omega)
  · have q : szA ts ≤ ts.length * 3 := szA_le fun t ht' => by
      obtain ⟨a, b, rfl, _⟩ := ht.two t ht'
      simp [DL.sz, szA]
    have := ht.len
    simp only [DL.sz, szA]
    omega
/-! instructions drawn -/
structure In (many size : Int) (v : PD) : Prop where
  is : insB many size v = true
  gd : Gd 1000000000 5 v
  sz : sz v ≤ 160
theorem jc_ok {l : List PD} (hl : Pot l) (A T : Store) (many size : Int) (m0 : 0 ≤ many) (m8 : many ≤ 8) (x3 x4 x5 x6 : Option D) :
    ∃ res l', c_law_instruction_0 [some (.ref A.length), some (.dat (.int many)), some (.dat (.int size)), x3, x4, x5, x6] (A ++ l :: T) = .ok (.dat (.list res)) (A ++ l' :: T) ∧ (res.length : Int) ≤ (if many < 4 then many else 4) ∧ (∀ x ∈ res, Sm many x) ∧ Pot l' := by
  obtain ⟨r, l1, e1, r0, r1, hl1⟩ := draw_ok (m := (if many < 4 then many else 4) + 1) hl (by split <;> omega) (by split <;> omega) A T
  have hr : r ≤ (if many < 4 then many else 4) := by omega
  have hr8 : r ≤ 8 := by split at hr <;> omega
  obtain ⟨res, S', e, h1, h2, ⟨l2, rfl, hl2⟩⟩ := lcE_draw (it := rngI1 (callE 2 F_law_draw (consA (varE 0) (consA (op2 addP (blt minP (consA (conE (.int 4)) (consA (varE 1) nilA))) (conE (.int 1))) nilA)))) (g := nmT 6) (fx := callE 2 F_law_sum (consA (varE 0) (consA (varE 1) nilA))) (vs := [6])
    (δ := [some (.ref A.length), some (.dat (.int many)), some (.dat (.int size)), x3, x4, x5, x6]) (S := A ++ l :: T) (S1 := A ++ l1 :: T) (ds := rangeL 0 r.toNat) (fun S => ∃ l, S = A ++ l :: T ∧ Pot l) (Sm many)
    (by
      simp only [rngI1, callE, consA, nilA, varE, op2, blt, conE, minP, addP, derefs, derefD, opt, R.bind, List.getElem?_cons_zero, List.getElem?_cons_succ, List.length_cons, List.length_nil, e1, Option.bind, Option.map, if_true]
      simp [e1]; omega)
    ⟨l1, rfl, hl1⟩ (fun p hp S hS => by
      obtain ⟨l3, rfl, hl3⟩ := hS
      obtain ⟨v, l4, e4, hv, hl4⟩ := dsum_ok hl3 A T many m0 m8
      refine ⟨[some (.ref A.length), some (.dat (.int many)), some (.dat (.int size)), x3, x4, x5, some (.dat p)], v, A ++ l4 :: T, by simp [nmT, wipeD], ?_, hv, l4, rfl, hl4⟩
      simp [callE, consA, nilA, varE, e4, R.bind]) (by rw [rangeL_len, sizeLine_eq]; omega)
  refine ⟨res, l2, e, ?_, h2, hl2⟩
  rw [h1, rangeL_len]
  omega
theorem sz_lit (s : String) (n : Nat) (h : (Str.ofString s).length ≤ n) : sz (.str s) ≤ 1 + n := by simp only [sz]; omega
theorem in_of {many size : Int} {w : String} {r : List PD} (h : insB many size (.tuple (.str w :: r)) = true) (hw : (Str.ofString w).length ≤ 5) (hg : ∀ x ∈ r, Gd 1000000000 4 x) (hz : szA r ≤ 140) : In many size (.tuple (.str w :: r)) := by
  refine ⟨h, Gd.tup fun x hx => ?_, ?_⟩
  · rcases List.mem_cons.mp hx with z | z
    · rw [z]; exact gd_lit
    · exact hg x z
  · have := sz_lit w 5 hw
    simp only [sz, szA] at *; omega
theorem Sm.gd4 {many : Int} {v : PD} (h : Sm many v) : Gd 1000000000 4 v := Gd.more (Nat.le_refl _) (by omega) h.gd
theorem bel_of {m i : Int} (h0 : 0 ≤ i) (h1 : i < m) : belB m (.int i) = true := by simp [belB, h0, h1]
def endW (v : PD) : Bool := match v with
  | .tuple (.str e :: _) => decide (e = "leave") || (decide (e = "back") || (decide (e = "stop") || (decide (e = "go") || decide (e = "jump"))))
  | _ => false
theorem ins_last {l : List PD} (hl : Pot l) (A T : Store) (many size : Int) (m0 : 0 ≤ many) (m8 : many ≤ 8) (s0 : 0 < size) (s9 : size ≤ 100) : ∃ v l', F_law_instruction [.ref A.length, .dat (.int many), .dat (.int size), .dat (.bool true)] (A ++ l :: T) = .ok (.dat v) (A ++ l' :: T) ∧ In many size v ∧ (true = true → endW v = true) ∧ Pot l' := by
  obtain ⟨w, l1, e1, hw, hl1⟩ := pick_ok (ds := [.str "go", .str "jump", .str "leave", .str "back", .str "stop"]) hl A T (by simp) (by simp)
  simp only [List.mem_cons, List.not_mem_nil, or_false] at hw
  rcases hw with rfl | rfl | rfl | rfl | rfl
  · obtain ⟨i, l2, e2, i0, i1, hl2⟩ := draw_ok (m := size) hl1 (by omega) (by omega) A T
    refine ⟨.tuple [.str "go", .int i], l2, fnM_dat ?_ (by simp), in_of (by simp [insB, str_lit, bel_of i0 i1]) (by decide) (by simp; exact gd_int (by omega)) (by simp [szA, sz]), (by simp [endW, str_lit]), hl2⟩
    simp [b_law_instruction, e1, e2, eqP_int, in_s2, eqP_str, beq_lit, seqS, asgS, ifS, boolT, op2, retS, retN, dropS, varE, conE, blt, bltC, consA, nilA, tupT, subT, nmT, tsT, nxS, R.bind, R.bindS, opt, derefD, derefs, dats, datD, subV, callE, callK, pick, andT, orT, notT, truT, trueD, truP, andE, orE, notE, iteE, isiE, isiP, tupE, lstE, celE, chainE, negE, slcE, someO, noO, cutP, mtE, mnE, parS, seqI, srcD, rngI1, rngI2, rg1, rg2, lrgE, lrgC, trgE, forS, ix0, ix1, ix2, ix3, ix4, ixl0, ixl1, gtP, ltP, leP, geP, addP, subP, absP, maxP, minP, intP, boolP, lenP, tupleP, listP, listC, sizeLine_eq]
  · obtain ⟨i, l2, e2, i0, i1, hl2⟩ := draw_ok (m := size) hl1 (by omega) (by omega) A T
    obtain ⟨res, l3, e3, hn, hx, hl3⟩ := jc_ok hl2 A T many size m0 m8 (some (.dat (.bool true))) (some (.dat (.list [.str "go", .str "jump", .str "leave", .str "back", .str "stop"]))) (some (.dat (.str "jump"))) none
    have hz : szA res ≤ res.length * 27 := szA_le fun x h => (hx x h).sz
    have hn4 : res.length ≤ 4 := by split at hn <;> omega
    have hall : res.all (smB many) = true := List.all_eq_true.mpr fun x h => (hx x h).is
    have hn2 : ¬ (res.length : Int) > (if many < 4 then many else 4) := by omega
    refine ⟨.tuple [.str "jump", .int i, .tuple res], l3, fnM_dat ?_ (by simp), in_of (by simp [insB, str_lit, bel_of i0 i1, smsB, hall, hn]) (by decide) (by simp; exact ⟨gd_int (by omega), Gd.tup fun x h => (hx x h).gd⟩) (by simp [szA, sz]; omega), (by simp [endW, str_lit]), hl3⟩
    simp [b_law_instruction, e1, e2, e3, eqP_int, in_s2, eqP_str, beq_lit, seqS, asgS, ifS, boolT, op2, retS, retN, dropS, varE, conE, blt, bltC, consA, nilA, tupT, subT, nmT, tsT, nxS, R.bind, R.bindS, opt, derefD, derefs, dats, datD, subV, callE, callK, pick, andT, orT, notT, truT, trueD, truP, andE, orE, notE, iteE, isiE, isiP, tupE, lstE, celE, chainE, negE, slcE, someO, noO, cutP, mtE, mnE, parS, seqI, srcD, rngI1, rngI2, rg1, rg2, lrgE, lrgC, trgE, forS, ix0, ix1, ix2, ix3, ix4, ixl0, ixl1, gtP, ltP, leP, geP, addP, subP, absP, maxP, minP, intP, boolP, lenP, tupleP, listP, listC, sizeLine_eq]
  · refine ⟨.tuple [.str "leave"], l1, fnM_dat ?_ (by simp), in_of (by simp [insB, str_lit]) (by decide) (by simp) (by simp [szA]), (by simp [endW, str_lit]), hl1⟩
    simp [b_law_instruction, e1, eqP_int, in_s2, eqP_str, beq_lit, seqS, asgS, ifS, boolT, op2, retS, retN, dropS, varE, conE, blt, bltC, consA, nilA, tupT, subT, nmT, tsT, nxS, R.bind, R.bindS, opt, derefD, derefs, dats, datD, subV, callE, callK, pick, andT, orT, notT, truT, trueD, truP, andE, orE, notE, iteE, isiE, isiP, tupE, lstE, celE, chainE, negE, slcE, someO, noO, cutP, mtE, mnE, parS, seqI, srcD, rngI1, rngI2, rg1, rg2, lrgE, lrgC, trgE, forS, ix0, ix1, ix2, ix3, ix4, ixl0, ixl1, gtP, ltP, leP, geP, addP, subP, absP, maxP, minP, intP, boolP, lenP, tupleP, listP, listC, sizeLine_eq]
  · refine ⟨.tuple [.str "back"], l1, fnM_dat ?_ (by simp), in_of (by simp [insB, str_lit]) (by decide) (by simp) (by simp [szA]), (by simp [endW, str_lit]), hl1⟩
    simp [b_law_instruction, e1, eqP_int, in_s2, eqP_str, beq_lit, seqS, asgS, ifS, boolT, op2, retS, retN, dropS, varE, conE, blt, bltC, consA, nilA, tupT, subT, nmT, tsT, nxS, R.bind, R.bindS, opt, derefD, derefs, dats, datD, subV, callE, callK, pick, andT, orT, notT, truT, trueD, truP, andE, orE, notE, iteE, isiE, isiP, tupE, lstE, celE, chainE, negE, slcE, someO, noO, cutP, mtE, mnE, parS, seqI, srcD, rngI1, rngI2, rg1, rg2, lrgE, lrgC, trgE, forS, ix0, ix1, ix2, ix3, ix4, ixl0, ixl1, gtP, ltP, leP, geP, addP, subP, absP, maxP, minP, intP, boolP, lenP, tupleP, listP, listC, sizeLine_eq]
  · obtain ⟨r, l2, e2, r0, r1, hl2⟩ := draw_ok (m := 1000) hl1 (by omega) (by omega) A T
    obtain ⟨x, l3, e3, hx, hl3⟩ := pick_ok (ds := [.int 0, .int 1, .int 127, .int 128, .int 999, .int r]) hl2 A T (by simp) (by simp)
    have : ∃ i : Int, x = .int i ∧ 0 ≤ i ∧ i < 1000 := by
      simp only [List.mem_cons, List.not_mem_nil, or_false] at hx
      rcases hx with rfl | rfl | rfl | rfl | rfl | rfl <;> exact ⟨_, rfl, by omega, by omega⟩
    obtain ⟨i, rfl, i0, i1⟩ := this
    refine ⟨.tuple [.str "stop", .int i], l3, fnM_dat ?_ (by simp), in_of (by simp [insB, str_lit, bel_of i0 i1]) (by decide) (by simp; exact gd_int (by omega)) (by simp [szA, sz]), (by simp [endW, str_lit]), hl3⟩
    simp [b_law_instruction, e1, e2, e3, eqP_int, in_s2, eqP_str, beq_lit, seqS, asgS, ifS, boolT, op2, retS, retN, dropS, varE, conE, blt, bltC, consA, nilA, tupT, subT, nmT, tsT, nxS, R.bind, R.bindS, opt, derefD, derefs, dats, datD, subV, callE, callK, pick, andT, orT, notT, truT, trueD, truP, andE, orE, notE, iteE, isiE, isiP, tupE, lstE, celE, chainE, negE, slcE, someO, noO, cutP, mtE, mnE, parS, seqI, srcD, rngI1, rngI2, rg1, rg2, lrgE, lrgC, trgE, forS, ix0, ix1, ix2, ix3, ix4, ixl0, ixl1, gtP, ltP, leP, geP, addP, subP, absP, maxP, minP, intP, boolP, lenP, tupleP, listP, listC, sizeLine_eq]
theorem ins_many {l : List PD} (hl : Pot l) (A T : Store) (many size : Int) (m0 : 0 ≤ many) (m8 : many ≤ 8) (s0 : 0 < size) (s9 : size ≤ 100) (hm : 0 < many) : ∃ v l', F_law_instruction [.ref A.length, .dat (.int many), .dat (.int size), .dat (.bool false)] (A ++ l :: T) = .ok (.dat v) (A ++ l' :: T) ∧ In many size v ∧ (false = true → endW v = true) ∧ Pot l' := by
  obtain ⟨w, l1, e1, hw, hl1⟩ := pick_ok (ds := [.str "go", .str "jump", .str "leave", .str "back", .str "stop", .str "read", .str "tell", .str "test", .str "share", .str "call", .str "read", .str "tell", .str "test", .str "set", .str "set"]) hl A T (by simp) (by simp)
  simp only [List.mem_cons, List.not_mem_nil, or_false] at hw
  rcases hw with rfl | rfl | rfl | rfl | rfl | rfl | rfl | rfl | rfl | rfl | rfl | rfl | rfl | rfl | rfl
  · obtain ⟨i, l2, e2, i0, i1, hl2⟩ := draw_ok (m := size) hl1 (by omega) (by omega) A T
    refine ⟨.tuple [.str "go", .int i], l2, fnM_dat ?_ (by simp), in_of (by simp [insB, str_lit, bel_of i0 i1]) (by decide) (by simp; exact gd_int (by omega)) (by simp [szA, sz]), (by simp [endW, str_lit]), hl2⟩
    simp [b_law_instruction, e1, e2, hm, in_s2, eqP_str, beq_lit, seqS, asgS, ifS, boolT, op2, retS, retN, dropS, varE, conE, blt, bltC, consA, nilA, tupT, subT, nmT, tsT, nxS, R.bind, R.bindS, opt, derefD, derefs, dats, datD, subV, callE, callK, pick, andT, orT, notT, truT, trueD, truP, andE, orE, notE, iteE, isiE, isiP, tupE, lstE, celE, chainE, negE, slcE, someO, noO, cutP, mtE, mnE, parS, seqI, srcD, rngI1, rngI2, rg1, rg2, lrgE, lrgC, trgE, forS, ix0, ix1, ix2, ix3, ix4, ixl0, ixl1, gtP, ltP, leP, geP, addP, subP, absP, maxP, minP, intP, boolP, lenP, tupleP, listP, listC, sizeLine_eq]
  · obtain ⟨i, l2, e2, i0, i1, hl2⟩ := draw_ok (m := size) hl1 (by omega) (by omega) A T
    obtain ⟨res, l3, e3, hn, hx, hl3⟩ := jc_ok hl2 A T many size m0 m8 (some (.dat (.bool false))) (some (.dat (.list [.str "go", .str "jump", .str "leave", .str "back", .str "stop", .str "read", .str "tell", .str "test", .str "share", .str "call", .str "read", .str "tell", .str "test", .str "set", .str "set"]))) (some (.dat (.str "jump"))) none
    have hz : szA res ≤ res.length * 27 := szA_le fun x h => (hx x h).sz
    have hn4 : res.length ≤ 4 := by split at hn <;> omega
    have hall : res.all (smB many) = true := List.all_eq_true.mpr fun x h => (hx x h).is
    have hn2 : ¬ (res.length : Int) > (if many < 4 then many else 4) := by omega
    refine ⟨.tuple [.str "jump", .int i, .tuple res], l3, fnM_dat ?_ (by simp), in_of (by simp [insB, str_lit, bel_of i0 i1, smsB, hall, hn]) (by decide) (by simp; exact ⟨gd_int (by omega), Gd.tup fun x h => (hx x h).gd⟩) (by simp [szA, sz]; omega), (by simp [endW, str_lit]), hl3⟩
    simp [b_law_instruction, e1, e2, e3, hm, in_s2, eqP_str, beq_lit, seqS, asgS, ifS, boolT, op2, retS, retN, dropS, varE, conE, blt, bltC, consA, nilA, tupT, subT, nmT, tsT, nxS, R.bind, R.bindS, opt, derefD, derefs, dats, datD, subV, callE, callK, pick, andT, orT, notT, truT, trueD, truP, andE, orE, notE, iteE, isiE, isiP, tupE, lstE, celE, chainE, negE, slcE, someO, noO, cutP, mtE, mnE, parS, seqI, srcD, rngI1, rngI2, rg1, rg2, lrgE, lrgC, trgE, forS, ix0, ix1, ix2, ix3, ix4, ixl0, ixl1, gtP, ltP, leP, geP, addP, subP, absP, maxP, minP, intP, boolP, lenP, tupleP, listP, listC, sizeLine_eq]
  · refine ⟨.tuple [.str "leave"], l1, fnM_dat ?_ (by simp), in_of (by simp [insB, str_lit]) (by decide) (by simp) (by simp [szA]), (by simp [endW, str_lit]), hl1⟩
    simp [b_law_instruction, e1, hm, in_s2, eqP_str, beq_lit, seqS, asgS, ifS, boolT, op2, retS, retN, dropS, varE, conE, blt, bltC, consA, nilA, tupT, subT, nmT, tsT, nxS, R.bind, R.bindS, opt, derefD, derefs, dats, datD, subV, callE, callK, pick, andT, orT, notT, truT, trueD, truP, andE, orE, notE, iteE, isiE, isiP, tupE, lstE, celE, chainE, negE, slcE, someO, noO, cutP, mtE, mnE, parS, seqI, srcD, rngI1, rngI2, rg1, rg2, lrgE, lrgC, trgE, forS, ix0, ix1, ix2, ix3, ix4, ixl0, ixl1, gtP, ltP, leP, geP, addP, subP, absP, maxP, minP, intP, boolP, lenP, tupleP, listP, listC, sizeLine_eq]
  · refine ⟨.tuple [.str "back"], l1, fnM_dat ?_ (by simp), in_of (by simp [insB, str_lit]) (by decide) (by simp) (by simp [szA]), (by simp [endW, str_lit]), hl1⟩
    simp [b_law_instruction, e1, hm, in_s2, eqP_str, beq_lit, seqS, asgS, ifS, boolT, op2, retS, retN, dropS, varE, conE, blt, bltC, consA, nilA, tupT, subT, nmT, tsT, nxS, R.bind, R.bindS, opt, derefD, derefs, dats, datD, subV, callE, callK, pick, andT, orT, notT, truT, trueD, truP, andE, orE, notE, iteE, isiE, isiP, tupE, lstE, celE, chainE, negE, slcE, someO, noO, cutP, mtE, mnE, parS, seqI, srcD, rngI1, rngI2, rg1, rg2, lrgE, lrgC, trgE, forS, ix0, ix1, ix2, ix3, ix4, ixl0, ixl1, gtP, ltP, leP, geP, addP, subP, absP, maxP, minP, intP, boolP, lenP, tupleP, listP, listC, sizeLine_eq]
  · obtain ⟨r, l2, e2, r0, r1, hl2⟩ := draw_ok (m := 1000) hl1 (by omega) (by omega) A T
    obtain ⟨x, l3, e3, hx, hl3⟩ := pick_ok (ds := [.int 0, .int 1, .int 127, .int 128, .int 999, .int r]) hl2 A T (by simp) (by simp)
    have : ∃ i : Int, x = .int i ∧ 0 ≤ i ∧ i < 1000 := by
      simp only [List.mem_cons, List.not_mem_nil, or_false] at hx
      rcases hx with rfl | rfl | rfl | rfl | rfl | rfl <;> exact ⟨_, rfl, by omega, by omega⟩
    obtain ⟨i, rfl, i0, i1⟩ := this
    refine ⟨.tuple [.str "stop", .int i], l3, fnM_dat ?_ (by simp), in_of (by simp [insB, str_lit, bel_of i0 i1]) (by decide) (by simp; exact gd_int (by omega)) (by simp [szA, sz]), (by simp [endW, str_lit]), hl3⟩
    simp [b_law_instruction, e1, e2, e3, hm, in_s2, eqP_str, beq_lit, seqS, asgS, ifS, boolT, op2, retS, retN, dropS, varE, conE, blt, bltC, consA, nilA, tupT, subT, nmT, tsT, nxS, R.bind, R.bindS, opt, derefD, derefs, dats, datD, subV, callE, callK, pick, andT, orT, notT, truT, trueD, truP, andE, orE, notE, iteE, isiE, isiP, tupE, lstE, celE, chainE, negE, slcE, someO, noO, cutP, mtE, mnE, parS, seqI, srcD, rngI1, rngI2, rg1, rg2, lrgE, lrgC, trgE, forS, ix0, ix1, ix2, ix3, ix4, ixl0, ixl1, gtP, ltP, leP, geP, addP, subP, absP, maxP, minP, intP, boolP, lenP, tupleP, listP, listC, sizeLine_eq]
  · by_cases hm0 : many = 0
    · subst hm0
      refine ⟨.tuple [.str "read", .none], l1, fnM_dat ?_ (by simp), in_of (by simp [insB, str_lit, isNone]) (by decide) (by simp; exact gd_non) (by simp [szA, sz]), (by simp), hl1⟩
      simp [b_law_instruction, e1, hm, in_s2, eqP_str, eqP_int, beq_lit, seqS, asgS, ifS, boolT, op2, retS, retN, dropS, varE, conE, blt, bltC, consA, nilA, tupT, subT, nmT, tsT, nxS, R.bind, R.bindS, opt, derefD, derefs, dats, datD, subV, callE, callK, pick, andT, orT, notT, truT, trueD, truP, andE, orE, notE, iteE, isiE, isiP, tupE, lstE, celE, chainE, negE, slcE, someO, noO, cutP, mtE, mnE, parS, seqI, srcD, rngI1, rngI2, rg1, rg2, lrgE, lrgC, trgE, forS, ix0, ix1, ix2, ix3, ix4, ixl0, ixl1, gtP, ltP, leP, geP, addP, subP, absP, maxP, minP, intP, boolP, lenP, tupleP, listP, listC, sizeLine_eq]
    obtain ⟨r, l2, e2, r0, r1, hl2⟩ := draw_ok (m := 3) hl1 (by omega) (by omega) A T
    by_cases hr0 : r = 0
    · subst hr0
      refine ⟨.tuple [.str "read", .none], l2, fnM_dat ?_ (by simp), in_of (by simp [insB, str_lit, isNone]) (by decide) (by simp; exact gd_non) (by simp [szA, sz]), (by simp), hl2⟩
      simp [b_law_instruction, e1, e2, hm0, hm, in_s2, eqP_str, eqP_int, beq_lit, seqS, asgS, ifS, boolT, op2, retS, retN, dropS, varE, conE, blt, bltC, consA, nilA, tupT, subT, nmT, tsT, nxS, R.bind, R.bindS, opt, derefD, derefs, dats, datD, subV, callE, callK, pick, andT, orT, notT, truT, trueD, truP, andE, orE, notE, iteE, isiE, isiP, tupE, lstE, celE, chainE, negE, slcE, someO, noO, cutP, mtE, mnE, parS, seqI, srcD, rngI1, rngI2, rg1, rg2, lrgE, lrgC, trgE, forS, ix0, ix1, ix2, ix3, ix4, ixl0, ixl1, gtP, ltP, leP, geP, addP, subP, absP, maxP, minP, intP, boolP, lenP, tupleP, listP, listC, sizeLine_eq]
    obtain ⟨i, l3, e3, i0, i1, hl3⟩ := draw_ok (m := many) hl2 (by omega) (by omega) A T
    refine ⟨.tuple [.str "read", .int i], l3, fnM_dat ?_ (by simp), in_of (by simp [insB, str_lit, bel_of i0 i1]) (by decide) (by simp; exact gd_int (by omega)) (by simp [szA, sz]), (by simp), hl3⟩
    simp [b_law_instruction, e1, e2, e3, hm0, hr0, hm, in_s2, eqP_str, eqP_int, beq_lit, seqS, asgS, ifS, boolT, op2, retS, retN, dropS, varE, conE, blt, bltC, consA, nilA, tupT, subT, nmT, tsT, nxS, R.bind, R.bindS, opt, derefD, derefs, dats, datD, subV, callE, callK, pick, andT, orT, notT, truT, trueD, truP, andE, orE, notE, iteE, isiE, isiP, tupE, lstE, celE, chainE, negE, slcE, someO, noO, cutP, mtE, mnE, parS, seqI, srcD, rngI1, rngI2, rg1, rg2, lrgE, lrgC, trgE, forS, ix0, ix1, ix2, ix3, ix4, ixl0, ixl1, gtP, ltP, leP, geP, addP, subP, absP, maxP, minP, intP, boolP, lenP, tupleP, listP, listC, sizeLine_eq]
  · obtain ⟨x, l3, e3, hx, hl3⟩ := dsum_ok hl1 A T many m0 m8
    have hz := hx.sz
    refine ⟨.tuple [.str "tell", x], l3, fnM_dat ?_ (by simp), in_of (by simp [insB, str_lit, hx.is]) (by decide) (by simp; exact hx.gd4) (by simp [szA]; omega), (by simp), hl3⟩
    simp [b_law_instruction, e1, e3, hm, in_s2, eqP_str, beq_lit, seqS, asgS, ifS, boolT, op2, retS, retN, dropS, varE, conE, blt, bltC, consA, nilA, tupT, subT, nmT, tsT, nxS, R.bind, R.bindS, opt, derefD, derefs, dats, datD, subV, callE, callK, pick, andT, orT, notT, truT, trueD, truP, andE, orE, notE, iteE, isiE, isiP, tupE, lstE, celE, chainE, negE, slcE, someO, noO, cutP, mtE, mnE, parS, seqI, srcD, rngI1, rngI2, rg1, rg2, lrgE, lrgC, trgE, forS, ix0, ix1, ix2, ix3, ix4, ixl0, ixl1, gtP, ltP, leP, geP, addP, subP, absP, maxP, minP, intP, boolP, lenP, tupleP, listP, listC, sizeLine_eq]
  · obtain ⟨i, l2, e2, i0, i1, hl2⟩ := draw_ok (m := size) hl1 (by omega) (by omega) A T
    refine ⟨.tuple [.str "test", .int i], l2, fnM_dat ?_ (by simp), in_of (by simp [insB, str_lit, bel_of i0 i1]) (by decide) (by simp; exact gd_int (by omega)) (by simp [szA, sz]), (by simp [endW, str_lit]), hl2⟩
    simp [b_law_instruction, e1, e2, hm, in_s2, eqP_str, beq_lit, seqS, asgS, ifS, boolT, op2, retS, retN, dropS, varE, conE, blt, bltC, consA, nilA, tupT, subT, nmT, tsT, nxS, R.bind, R.bindS, opt, derefD, derefs, dats, datD, subV, callE, callK, pick, andT, orT, notT, truT, trueD, truP, andE, orE, notE, iteE, isiE, isiP, tupE, lstE, celE, chainE, negE, slcE, someO, noO, cutP, mtE, mnE, parS, seqI, srcD, rngI1, rngI2, rg1, rg2, lrgE, lrgC, trgE, forS, ix0, ix1, ix2, ix3, ix4, ixl0, ixl1, gtP, ltP, leP, geP, addP, subP, absP, maxP, minP, intP, boolP, lenP, tupleP, listP, listC, sizeLine_eq]
  · obtain ⟨i, l2, e2, i0, i1, hl2⟩ := draw_ok (m := size) hl1 (by omega) (by omega) A T
    refine ⟨.tuple [.str "share", .int i], l2, fnM_dat ?_ (by simp), in_of (by simp [insB, str_lit, bel_of i0 i1]) (by decide) (by simp; exact gd_int (by omega)) (by simp [szA, sz]), (by simp [endW, str_lit]), hl2⟩
    simp [b_law_instruction, e1, e2, hm, in_s2, eqP_str, beq_lit, seqS, asgS, ifS, boolT, op2, retS, retN, dropS, varE, conE, blt, bltC, consA, nilA, tupT, subT, nmT, tsT, nxS, R.bind, R.bindS, opt, derefD, derefs, dats, datD, subV, callE, callK, pick, andT, orT, notT, truT, trueD, truP, andE, orE, notE, iteE, isiE, isiP, tupE, lstE, celE, chainE, negE, slcE, someO, noO, cutP, mtE, mnE, parS, seqI, srcD, rngI1, rngI2, rg1, rg2, lrgE, lrgC, trgE, forS, ix0, ix1, ix2, ix3, ix4, ixl0, ixl1, gtP, ltP, leP, geP, addP, subP, absP, maxP, minP, intP, boolP, lenP, tupleP, listP, listC, sizeLine_eq]
  · obtain ⟨i, l2, e2, i0, i1, hl2⟩ := draw_ok (m := size) hl1 (by omega) (by omega) A T
    obtain ⟨res, l3, e3, hn, hx, hl3⟩ := jc_ok hl2 A T many size m0 m8 (some (.dat (.bool false))) (some (.dat (.list [.str "go", .str "jump", .str "leave", .str "back", .str "stop", .str "read", .str "tell", .str "test", .str "share", .str "call", .str "read", .str "tell", .str "test", .str "set", .str "set"]))) (some (.dat (.str "call"))) none
    have hz : szA res ≤ res.length * 27 := szA_le fun x h => (hx x h).sz
    have hn4 : res.length ≤ 4 := by split at hn <;> omega
    have hall : res.all (smB many) = true := List.all_eq_true.mpr fun x h => (hx x h).is
    have hn2 : ¬ (res.length : Int) > (if many < 4 then many else 4) := by omega
    refine ⟨.tuple [.str "call", .int i, .tuple res], l3, fnM_dat ?_ (by simp), in_of (by simp [insB, str_lit, bel_of i0 i1, smsB, hall, hn]) (by decide) (by simp; exact ⟨gd_int (by omega), Gd.tup fun x h => (hx x h).gd⟩) (by simp [szA, sz]; omega), (by simp [endW, str_lit]), hl3⟩
    simp [b_law_instruction, e1, e2, e3, hm, in_s2, eqP_str, beq_lit, seqS, asgS, ifS, boolT, op2, retS, retN, dropS, varE, conE, blt, bltC, consA, nilA, tupT, subT, nmT, tsT, nxS, R.bind, R.bindS, opt, derefD, derefs, dats, datD, subV, callE, callK, pick, andT, orT, notT, truT, trueD, truP, andE, orE, notE, iteE, isiE, isiP, tupE, lstE, celE, chainE, negE, slcE, someO, noO, cutP, mtE, mnE, parS, seqI, srcD, rngI1, rngI2, rg1, rg2, lrgE, lrgC, trgE, forS, ix0, ix1, ix2, ix3, ix4, ixl0, ixl1, gtP, ltP, leP, geP, addP, subP, absP, maxP, minP, intP, boolP, lenP, tupleP, listP, listC, sizeLine_eq]
  · by_cases hm0 : many = 0
    · subst hm0
      refine ⟨.tuple [.str "read", .none], l1, fnM_dat ?_ (by simp), in_of (by simp [insB, str_lit, isNone]) (by decide) (by simp; exact gd_non) (by simp [szA, sz]), (by simp), hl1⟩
      simp [b_law_instruction, e1, hm, in_s2, eqP_str, eqP_int, beq_lit, seqS, asgS, ifS, boolT, op2, retS, retN, dropS, varE, conE, blt, bltC, consA, nilA, tupT, subT, nmT, tsT, nxS, R.bind, R.bindS, opt, derefD, derefs, dats, datD, subV, callE, callK, pick, andT, orT, notT, truT, trueD, truP, andE, orE, notE, iteE, isiE, isiP, tupE, lstE, celE, chainE, negE, slcE, someO, noO, cutP, mtE, mnE, parS, seqI, srcD, rngI1, rngI2, rg1, rg2, lrgE, lrgC, trgE, forS, ix0, ix1, ix2, ix3, ix4, ixl0, ixl1, gtP, ltP, leP, geP, addP, subP, absP, maxP, minP, intP, boolP, lenP, tupleP, listP, listC, sizeLine_eq]
    obtain ⟨r, l2, e2, r0, r1, hl2⟩ := draw_ok (m := 3) hl1 (by omega) (by omega) A T
    by_cases hr0 : r = 0
    · subst hr0
      refine ⟨.tuple [.str "read", .none], l2, fnM_dat ?_ (by simp), in_of (by simp [insB, str_lit, isNone]) (by decide) (by simp; exact gd_non) (by simp [szA, sz]), (by simp), hl2⟩
      simp [b_law_instruction, e1, e2, hm0, hm, in_s2, eqP_str, eqP_int, beq_lit, seqS, asgS, ifS, boolT, op2, retS, retN, dropS, varE, conE, blt, bltC, consA, nilA, tupT, subT, nmT, tsT, nxS, R.bind, R.bindS, opt, derefD, derefs, dats, datD, subV, callE, callK, pick, andT, orT, notT, truT, trueD, truP, andE, orE, notE, iteE, isiE, isiP, tupE, lstE, celE, chainE, negE, slcE, someO, noO, cutP, mtE, mnE, parS, seqI, srcD, rngI1, rngI2, rg1, rg2, lrgE, lrgC, trgE, forS, ix0, ix1, ix2, ix3, ix4, ixl0, ixl1, gtP, ltP, leP, geP, addP, subP, absP, maxP, minP, intP, boolP, lenP, tupleP, listP, listC, sizeLine_eq]
    obtain ⟨i, l3, e3, i0, i1, hl3⟩ := draw_ok (m := many) hl2 (by omega) (by omega) A T
    refine ⟨.tuple [.str "read", .int i], l3, fnM_dat ?_ (by simp), in_of (by simp [insB, str_lit, bel_of i0 i1]) (by decide) (by simp; exact gd_int (by omega)) (by simp [szA, sz]), (by simp), hl3⟩
    simp [b_law_instruction, e1, e2, e3, hm0, hr0, hm, in_s2, eqP_str, eqP_int, beq_lit, seqS, asgS, ifS, boolT, op2, retS, retN, dropS, varE, conE, blt, bltC, consA, nilA, tupT, subT, nmT, tsT, nxS, R.bind, R.bindS, opt, derefD, derefs, dats, datD, subV, callE, callK, pick, andT, orT, notT, truT, trueD, truP, andE, orE, notE, iteE, isiE, isiP, tupE, lstE, celE, chainE, negE, slcE, someO, noO, cutP, mtE, mnE, parS, seqI, srcD, rngI1, rngI2, rg1, rg2, lrgE, lrgC, trgE, forS, ix0, ix1, ix2, ix3, ix4, ixl0, ixl1, gtP, ltP, leP, geP, addP, subP, absP, maxP, minP, intP, boolP, lenP, tupleP, listP, listC, sizeLine_eq]
  · obtain ⟨x, l3, e3, hx, hl3⟩ := dsum_ok hl1 A T many m0 m8
    have hz := hx.sz
    refine ⟨.tuple [.str "tell", x], l3, fnM_dat ?_ (by simp), in_of (by simp [insB, str_lit, hx.is]) (by decide) (by simp; exact hx.gd4) (by simp [szA]; omega), (by simp), hl3⟩
    simp [b_law_instruction, e1, e3, hm, in_s2, eqP_str, beq_lit, seqS, asgS, ifS, boolT, op2, retS, retN, dropS, varE, conE, blt, bltC, consA, nilA, tupT, subT, nmT, tsT, nxS, R.bind, R.bindS, opt, derefD, derefs, dats, datD, subV, callE, callK, pick, andT, orT, notT, truT, trueD, truP, andE, orE, notE, iteE, isiE, isiP, tupE, lstE, celE, chainE, negE, slcE, someO, noO, cutP, mtE, mnE, parS, seqI, srcD, rngI1, rngI2, rg1, rg2, lrgE, lrgC, trgE, forS, ix0, ix1, ix2, ix3, ix4, ixl0, ixl1, gtP, ltP, leP, geP, addP, subP, absP, maxP, minP, intP, boolP, lenP, tupleP, listP, listC, sizeLine_eq]
  · obtain ⟨i, l2, e2, i0, i1, hl2⟩ := draw_ok (m := size) hl1 (by omega) (by omega) A T
    refine ⟨.tuple [.str "test", .int i], l2, fnM_dat ?_ (by simp), in_of (by simp [insB, str_lit, bel_of i0 i1]) (by decide) (by simp; exact gd_int (by omega)) (by simp [szA, sz]), (by simp [endW, str_lit]), hl2⟩
    simp [b_law_instruction, e1, e2, hm, in_s2, eqP_str, beq_lit, seqS, asgS, ifS, boolT, op2, retS, retN, dropS, varE, conE, blt, bltC, consA, nilA, tupT, subT, nmT, tsT, nxS, R.bind, R.bindS, opt, derefD, derefs, dats, datD, subV, callE, callK, pick, andT, orT, notT, truT, trueD, truP, andE, orE, notE, iteE, isiE, isiP, tupE, lstE, celE, chainE, negE, slcE, someO, noO, cutP, mtE, mnE, parS, seqI, srcD, rngI1, rngI2, rg1, rg2, lrgE, lrgC, trgE, forS, ix0, ix1, ix2, ix3, ix4, ixl0, ixl1, gtP, ltP, leP, geP, addP, subP, absP, maxP, minP, intP, boolP, lenP, tupleP, listP, listC, sizeLine_eq]
  · obtain ⟨i, l2, e2, i0, i1, hl2⟩ := draw_ok (m := many) hl1 (by omega) (by omega) A T
    obtain ⟨x, l3, e3, hx, hl3⟩ := dsum_ok hl2 A T many m0 m8
    have hz := hx.sz
    refine ⟨.tuple [.str "set", .int i, x], l3, fnM_dat ?_ (by simp), in_of (by simp [insB, str_lit, bel_of i0 i1, hx.is]) (by decide) (by simp; exact ⟨gd_int (by omega), hx.gd4⟩) (by simp [szA, sz]; omega), (by simp), hl3⟩
    simp [b_law_instruction, e1, e2, e3, hm, in_s2, eqP_str, beq_lit, seqS, asgS, ifS, boolT, op2, retS, retN, dropS, varE, conE, blt, bltC, consA, nilA, tupT, subT, nmT, tsT, nxS, R.bind, R.bindS, opt, derefD, derefs, dats, datD, subV, callE, callK, pick, andT, orT, notT, truT, trueD, truP, andE, orE, notE, iteE, isiE, isiP, tupE, lstE, celE, chainE, negE, slcE, someO, noO, cutP, mtE, mnE, parS, seqI, srcD, rngI1, rngI2, rg1, rg2, lrgE, lrgC, trgE, forS, ix0, ix1, ix2, ix3, ix4, ixl0, ixl1, gtP, ltP, leP, geP, addP, subP, absP, maxP, minP, intP, boolP, lenP, tupleP, listP, listC, sizeLine_eq]
  · obtain ⟨i, l2, e2, i0, i1, hl2⟩ := draw_ok (m := many) hl1 (by omega) (by omega) A T
    obtain ⟨x, l3, e3, hx, hl3⟩ := dsum_ok hl2 A T many m0 m8
    have hz := hx.sz
    refine ⟨.tuple [.str "set", .int i, x], l3, fnM_dat ?_ (by simp), in_of (by simp [insB, str_lit, bel_of i0 i1, hx.is]) (by decide) (by simp; exact ⟨gd_int (by omega), hx.gd4⟩) (by simp [szA, sz]; omega), (by simp), hl3⟩
    simp [b_law_instruction, e1, e2, e3, hm, in_s2, eqP_str, beq_lit, seqS, asgS, ifS, boolT, op2, retS, retN, dropS, varE, conE, blt, bltC, consA, nilA, tupT, subT, nmT, tsT, nxS, R.bind, R.bindS, opt, derefD, derefs, dats, datD, subV, callE, callK, pick, andT, orT, notT, truT, trueD, truP, andE, orE, notE, iteE, isiE, isiP, tupE, lstE, celE, chainE, negE, slcE, someO, noO, cutP, mtE, mnE, parS, seqI, srcD, rngI1, rngI2, rg1, rg2, lrgE, lrgC, trgE, forS, ix0, ix1, ix2, ix3, ix4, ixl0, ixl1, gtP, ltP, leP, geP, addP, subP, absP, maxP, minP, intP, boolP, lenP, tupleP, listP, listC, sizeLine_eq]
theorem ins_none {l : List PD} (hl : Pot l) (A T : Store) (many size : Int) (m0 : 0 ≤ many) (m8 : many ≤ 8) (s0 : 0 < size) (s9 : size ≤ 100) (hm : ¬ 0 < many) : ∃ v l', F_law_instruction [.ref A.length, .dat (.int many), .dat (.int size), .dat (.bool false)] (A ++ l :: T) = .ok (.dat v) (A ++ l' :: T) ∧ In many size v ∧ (false = true → endW v = true) ∧ Pot l' := by
  obtain ⟨w, l1, e1, hw, hl1⟩ := pick_ok (ds := [.str "go", .str "jump", .str "leave", .str "back", .str "stop", .str "read", .str "tell", .str "test", .str "share", .str "call", .str "read", .str "tell", .str "test"]) hl A T (by simp) (by simp)
  simp only [List.mem_cons, List.not_mem_nil, or_false] at hw
  rcases hw with rfl | rfl | rfl | rfl | rfl | rfl | rfl | rfl | rfl | rfl | rfl | rfl | rfl
  · obtain ⟨i, l2, e2, i0, i1, hl2⟩ := draw_ok (m := size) hl1 (by omega) (by omega) A T
    refine ⟨.tuple [.str "go", .int i], l2, fnM_dat ?_ (by simp), in_of (by simp [insB, str_lit, bel_of i0 i1]) (by decide) (by simp; exact gd_int (by omega)) (by simp [szA, sz]), (by simp [endW, str_lit]), hl2⟩
    simp [b_law_instruction, e1, e2, hm, in_s2, eqP_str, beq_lit, seqS, asgS, ifS, boolT, op2, retS, retN, dropS, varE, conE, blt, bltC, consA, nilA, tupT, subT, nmT, tsT, nxS, R.bind, R.bindS, opt, derefD, derefs, dats, datD, subV, callE, callK, pick, andT, orT, notT, truT, trueD, truP, andE, orE, notE, iteE, isiE, isiP, tupE, lstE, celE, chainE, negE, slcE, someO, noO, cutP, mtE, mnE, parS, seqI, srcD, rngI1, rngI2, rg1, rg2, lrgE, lrgC, trgE, forS, ix0, ix1, ix2, ix3, ix4, ixl0, ixl1, gtP, ltP, leP, geP, addP, subP, absP, maxP, minP, intP, boolP, lenP, tupleP, listP, listC, sizeLine_eq]
  · obtain ⟨i, l2, e2, i0, i1, hl2⟩ := draw_ok (m := size) hl1 (by omega) (by omega) A T
    obtain ⟨res, l3, e3, hn, hx, hl3⟩ := jc_ok hl2 A T many size m0 m8 (some (.dat (.bool false))) (some (.dat (.list [.str "go", .str "jump", .str "leave", .str "back", .str "stop", .str "read", .str "tell", .str "test", .str "share", .str "call", .str "read", .str "tell", .str "test"]))) (some (.dat (.str "jump"))) none
    have hz : szA res ≤ res.length * 27 := szA_le fun x h => (hx x h).sz
    have hn4 : res.length ≤ 4 := by split at hn <;> omega
    have hall : res.all (smB many) = true := List.all_eq_true.mpr fun x h => (hx x h).is
    have hn2 : ¬ (res.length : Int) > (if many < 4 then many else 4) := by omega
    refine ⟨.tuple [.str "jump", .int i, .tuple res], l3, fnM_dat ?_ (by simp), in_of (by simp [insB, str_lit, bel_of i0 i1, smsB, hall, hn]) (by decide) (by simp; exact ⟨gd_int (by omega), Gd.tup fun x h => (hx x h).gd⟩) (by simp [szA, sz]; omega), (by simp [endW, str_lit]), hl3⟩
    simp [b_law_instruction, e1, e2, e3, hm, in_s2, eqP_str, beq_lit, seqS, asgS, ifS, boolT, op2, retS, retN, dropS, varE, conE, blt, bltC, consA, nilA, tupT, subT, nmT, tsT, nxS, R.bind, R.bindS, opt, derefD, derefs, dats, datD, subV, callE, callK, pick, andT, orT, notT, truT, trueD, truP, andE, orE, notE, iteE, isiE, isiP, tupE, lstE, celE, chainE, negE, slcE, someO, noO, cutP, mtE, mnE, parS, seqI, srcD, rngI1, rngI2, rg1, rg2, lrgE, lrgC, trgE, forS, ix0, ix1, ix2, ix3, ix4, ixl0, ixl1, gtP, ltP, leP, geP, addP, subP, absP, maxP, minP, intP, boolP, lenP, tupleP, listP, listC, sizeLine_eq]
  · refine ⟨.tuple [.str "leave"], l1, fnM_dat ?_ (by simp), in_of (by simp [insB, str_lit]) (by decide) (by simp) (by simp [szA]), (by simp [endW, str_lit]), hl1⟩
    simp [b_law_instruction, e1, hm, in_s2, eqP_str, beq_lit, seqS, asgS, ifS, boolT, op2, retS, retN, dropS, varE, conE, blt, bltC, consA, nilA, tupT, subT, nmT, tsT, nxS, R.bind, R.bindS, opt, derefD, derefs, dats, datD, subV, callE, callK, pick, andT, orT, notT, truT, trueD, truP, andE, orE, notE, iteE, isiE, isiP, tupE, lstE, celE, chainE, negE, slcE, someO, noO, cutP, mtE, mnE, parS, seqI, srcD, rngI1, rngI2, rg1, rg2, lrgE, lrgC, trgE, forS, ix0, ix1, ix2, ix3, ix4, ixl0, ixl1, gtP, ltP, leP, geP, addP, subP, absP, maxP, minP, intP, boolP, lenP, tupleP, listP, listC, sizeLine_eq]
  · refine ⟨.tuple [.str "back"], l1, fnM_dat ?_ (by simp), in_of (by simp [insB, str_lit]) (by decide) (by simp) (by simp [szA]), (by simp [endW, str_lit]), hl1⟩
    simp [b_law_instruction, e1, hm, in_s2, eqP_str, beq_lit, seqS, asgS, ifS, boolT, op2, retS, retN, dropS, varE, conE, blt, bltC, consA, nilA, tupT, subT, nmT, tsT, nxS, R.bind, R.bindS, opt, derefD, derefs, dats, datD, subV, callE, callK, pick, andT, orT, notT, truT, trueD, truP, andE, orE, notE, iteE, isiE, isiP, tupE, lstE, celE, chainE, negE, slcE, someO, noO, cutP, mtE, mnE, parS, seqI, srcD, rngI1, rngI2, rg1, rg2, lrgE, lrgC, trgE, forS, ix0, ix1, ix2, ix3, ix4, ixl0, ixl1, gtP, ltP, leP, geP, addP, subP, absP, maxP, minP, intP, boolP, lenP, tupleP, listP, listC, sizeLine_eq]
  · obtain ⟨r, l2, e2, r0, r1, hl2⟩ := draw_ok (m := 1000) hl1 (by omega) (by omega) A T
    obtain ⟨x, l3, e3, hx, hl3⟩ := pick_ok (ds := [.int 0, .int 1, .int 127, .int 128, .int 999, .int r]) hl2 A T (by simp) (by simp)
    have : ∃ i : Int, x = .int i ∧ 0 ≤ i ∧ i < 1000 := by
      simp only [List.mem_cons, List.not_mem_nil, or_false] at hx
      rcases hx with rfl | rfl | rfl | rfl | rfl | rfl <;> exact ⟨_, rfl, by omega, by omega⟩
    obtain ⟨i, rfl, i0, i1⟩ := this
    refine ⟨.tuple [.str "stop", .int i], l3, fnM_dat ?_ (by simp), in_of (by simp [insB, str_lit, bel_of i0 i1]) (by decide) (by simp; exact gd_int (by omega)) (by simp [szA, sz]), (by simp [endW, str_lit]), hl3⟩
    simp [b_law_instruction, e1, e2, e3, hm, in_s2, eqP_str, beq_lit, seqS, asgS, ifS, boolT, op2, retS, retN, dropS, varE, conE, blt, bltC, consA, nilA, tupT, subT, nmT, tsT, nxS, R.bind, R.bindS, opt, derefD, derefs, dats, datD, subV, callE, callK, pick, andT, orT, notT, truT, trueD, truP, andE, orE, notE, iteE, isiE, isiP, tupE, lstE, celE, chainE, negE, slcE, someO, noO, cutP, mtE, mnE, parS, seqI, srcD, rngI1, rngI2, rg1, rg2, lrgE, lrgC, trgE, forS, ix0, ix1, ix2, ix3, ix4, ixl0, ixl1, gtP, ltP, leP, geP, addP, subP, absP, maxP, minP, intP, boolP, lenP, tupleP, listP, listC, sizeLine_eq]
  · by_cases hm0 : many = 0
    · subst hm0
      refine ⟨.tuple [.str "read", .none], l1, fnM_dat ?_ (by simp), in_of (by simp [insB, str_lit, isNone]) (by decide) (by simp; exact gd_non) (by simp [szA, sz]), (by simp), hl1⟩
      simp [b_law_instruction, e1, hm, in_s2, eqP_str, eqP_int, beq_lit, seqS, asgS, ifS, boolT, op2, retS, retN, dropS, varE, conE, blt, bltC, consA, nilA, tupT, subT, nmT, tsT, nxS, R.bind, R.bindS, opt, derefD, derefs, dats, datD, subV, callE, callK, pick, andT, orT, notT, truT, trueD, truP, andE, orE, notE, iteE, isiE, isiP, tupE, lstE, celE, chainE, negE, slcE, someO, noO, cutP, mtE, mnE, parS, seqI, srcD, rngI1, rngI2, rg1, rg2, lrgE, lrgC, trgE, forS, ix0, ix1, ix2, ix3, ix4, ixl0, ixl1, gtP, ltP, leP, geP, addP, subP, absP, maxP, minP, intP, boolP, lenP, tupleP, listP, listC, sizeLine_eq]
    obtain ⟨r, l2, e2, r0, r1, hl2⟩ := draw_ok (m := 3) hl1 (by omega) (by omega) A T
    by_cases hr0 : r = 0
    · subst hr0
      refine ⟨.tuple [.str "read", .none], l2, fnM_dat ?_ (by simp), in_of (by simp [insB, str_lit, isNone]) (by decide) (by simp; exact gd_non) (by simp [szA, sz]), (by simp), hl2⟩
      simp [b_law_instruction, e1, e2, hm0, hm, in_s2, eqP_str, eqP_int, beq_lit, seqS, asgS, ifS, boolT, op2, retS, retN, dropS, varE, conE, blt, bltC, consA, nilA, tupT, subT, nmT, tsT, nxS, R.bind, R.bindS, opt, derefD, derefs, dats, datD, subV, callE, callK, pick, andT, orT, notT, truT, trueD, truP, andE, orE, notE, iteE, isiE, isiP, tupE, lstE, celE, chainE, negE, slcE, someO, noO, cutP, mtE, mnE, parS, seqI, srcD, rngI1, rngI2, rg1, rg2, lrgE, lrgC, trgE, forS, ix0, ix1, ix2, ix3, ix4, ixl0, ixl1, gtP, ltP, leP, geP, addP, subP, absP, maxP, minP, intP, boolP, lenP, tupleP, listP, listC, sizeLine_eq]
    obtain ⟨i, l3, e3, i0, i1, hl3⟩ := draw_ok (m := many) hl2 (by omega) (by omega) A T
    refine ⟨.tuple [.str "read", .int i], l3, fnM_dat ?_ (by simp), in_of (by simp [insB, str_lit, bel_of i0 i1]) (by decide) (by simp; exact gd_int (by omega)) (by simp [szA, sz]), (by simp), hl3⟩
    simp [b_law_instruction, e1, e2, e3, hm0, hr0, hm, in_s2, eqP_str, eqP_int, beq_lit, seqS, asgS, ifS, boolT, op2, retS, retN, dropS, varE, conE, blt, bltC, consA, nilA, tupT, subT, nmT, tsT, nxS, R.bind, R.bindS, opt, derefD, derefs, dats, datD, subV, callE, callK, pick, andT, orT, notT, truT, trueD, truP, andE, orE, notE, iteE, isiE, isiP, tupE, lstE, celE, chainE, negE, slcE, someO, noO, cutP, mtE, mnE, parS, seqI, srcD, rngI1, rngI2, rg1, rg2, lrgE, lrgC, trgE, forS, ix0, ix1, ix2, ix3, ix4, ixl0, ixl1, gtP, ltP, leP, geP, addP, subP, absP, maxP, minP, intP, boolP, lenP, tupleP, listP, listC, sizeLine_eq]
  · obtain ⟨x, l3, e3, hx, hl3⟩ := dsum_ok hl1 A T many m0 m8
    have hz := hx.sz
    refine ⟨.tuple [.str "tell", x], l3, fnM_dat ?_ (by simp), in_of (by simp [insB, str_lit, hx.is]) (by decide) (by simp; exact hx.gd4) (by simp [szA]; omega), (by simp), hl3⟩
    simp [b_law_instruction, e1, e3, hm, in_s2, eqP_str, beq_lit, seqS, asgS, ifS, boolT, op2, retS, retN, dropS, varE, conE, blt, bltC, consA, nilA, tupT, subT, nmT, tsT, nxS, R.bind, R.bindS, opt, derefD, derefs, dats, datD, subV, callE, callK, pick, andT, orT, notT, truT, trueD, truP, andE, orE, notE, iteE, isiE, isiP, tupE, lstE, celE, chainE, negE, slcE, someO, noO, cutP, mtE, mnE, parS, seqI, srcD, rngI1, rngI2, rg1, rg2, lrgE, lrgC, trgE, forS, ix0, ix1, ix2, ix3, ix4, ixl0, ixl1, gtP, ltP, leP, geP, addP, subP, absP, maxP, minP, intP, boolP, lenP, tupleP, listP, listC, sizeLine_eq]
  · obtain ⟨i, l2, e2, i0, i1, hl2⟩ := draw_ok (m := size) hl1 (by omega) (by omega) A T
    refine ⟨.tuple [.str "test", .int i], l2, fnM_dat ?_ (by simp), in_of (by simp [insB, str_lit, bel_of i0 i1]) (by decide) (by simp; exact gd_int (by omega)) (by simp [szA, sz]), (by simp [endW, str_lit]), hl2⟩
    simp [b_law_instruction, e1, e2, hm, in_s2, eqP_str, beq_lit, seqS, asgS, ifS, boolT, op2, retS, retN, dropS, varE, conE, blt, bltC, consA, nilA, tupT, subT, nmT, tsT, nxS, R.bind, R.bindS, opt, derefD, derefs, dats, datD, subV, callE, callK, pick, andT, orT, notT, truT, trueD, truP, andE, orE, notE, iteE, isiE, isiP, tupE, lstE, celE, chainE, negE, slcE, someO, noO, cutP, mtE, mnE, parS, seqI, srcD, rngI1, rngI2, rg1, rg2, lrgE, lrgC, trgE, forS, ix0, ix1, ix2, ix3, ix4, ixl0, ixl1, gtP, ltP, leP, geP, addP, subP, absP, maxP, minP, intP, boolP, lenP, tupleP, listP, listC, sizeLine_eq]
  · obtain ⟨i, l2, e2, i0, i1, hl2⟩ := draw_ok (m := size) hl1 (by omega) (by omega) A T
    refine ⟨.tuple [.str "share", .int i], l2, fnM_dat ?_ (by simp), in_of (by simp [insB, str_lit, bel_of i0 i1]) (by decide) (by simp; exact gd_int (by omega)) (by simp [szA, sz]), (by simp [endW, str_lit]), hl2⟩
    simp [b_law_instruction, e1, e2, hm, in_s2, eqP_str, beq_lit, seqS, asgS, ifS, boolT, op2, retS, retN, dropS, varE, conE, blt, bltC, consA, nilA, tupT, subT, nmT, tsT, nxS, R.bind, R.bindS, opt, derefD, derefs, dats, datD, subV, callE, callK, pick, andT, orT, notT, truT, trueD, truP, andE, orE, notE, iteE, isiE, isiP, tupE, lstE, celE, chainE, negE, slcE, someO, noO, cutP, mtE, mnE, parS, seqI, srcD, rngI1, rngI2, rg1, rg2, lrgE, lrgC, trgE, forS, ix0, ix1, ix2, ix3, ix4, ixl0, ixl1, gtP, ltP, leP, geP, addP, subP, absP, maxP, minP, intP, boolP, lenP, tupleP, listP, listC, sizeLine_eq]
  · obtain ⟨i, l2, e2, i0, i1, hl2⟩ := draw_ok (m := size) hl1 (by omega) (by omega) A T
    obtain ⟨res, l3, e3, hn, hx, hl3⟩ := jc_ok hl2 A T many size m0 m8 (some (.dat (.bool false))) (some (.dat (.list [.str "go", .str "jump", .str "leave", .str "back", .str "stop", .str "read", .str "tell", .str "test", .str "share", .str "call", .str "read", .str "tell", .str "test"]))) (some (.dat (.str "call"))) none
    have hz : szA res ≤ res.length * 27 := szA_le fun x h => (hx x h).sz
    have hn4 : res.length ≤ 4 := by split at hn <;> omega
    have hall : res.all (smB many) = true := List.all_eq_true.mpr fun x h => (hx x h).is
    have hn2 : ¬ (res.length : Int) > (if many < 4 then many else 4) := by omega
    refine ⟨.tuple [.str "call", .int i, .tuple res], l3, fnM_dat ?_ (by simp), in_of (by simp [insB, str_lit, bel_of i0 i1, smsB, hall, hn]) (by decide) (by simp; exact ⟨gd_int (by omega), Gd.tup fun x h => (hx x h).gd⟩) (by simp [szA, sz]; omega), (by simp [endW, str_lit]), hl3⟩
    simp [b_law_instruction, e1, e2, e3, hm, in_s2, eqP_str, beq_lit, seqS, asgS, ifS, boolT, op2, retS, retN, dropS, varE, conE, blt, bltC, consA, nilA, tupT, subT, nmT, tsT, nxS, R.bind, R.bindS, opt, derefD, derefs, dats, datD, subV, callE, callK, pick, andT, orT, notT, truT, trueD, truP, andE, orE, notE, iteE, isiE, isiP, tupE, lstE, celE, chainE, negE, slcE, someO, noO, cutP, mtE, mnE, parS, seqI, srcD, rngI1, rngI2, rg1, rg2, lrgE, lrgC, trgE, forS, ix0, ix1, ix2, ix3, ix4, ixl0, ixl1, gtP, ltP, leP, geP, addP, subP, absP, maxP, minP, intP, boolP, lenP, tupleP, listP, listC, sizeLine_eq]
  · by_cases hm0 : many = 0
    · subst hm0
      refine ⟨.tuple [.str "read", .none], l1, fnM_dat ?_ (by simp), in_of (by simp [insB, str_lit, isNone]) (by decide) (by simp; exact gd_non) (by simp [szA, sz]), (by simp), hl1⟩
      simp [b_law_instruction, e1, hm, in_s2, eqP_str, eqP_int, beq_lit, seqS, asgS, ifS, boolT, op2, retS, retN, dropS, varE, conE, blt, bltC, consA, nilA, tupT, subT, nmT, tsT, nxS, R.bind, R.bindS, opt, derefD, derefs, dats, datD, subV, callE, callK, pick, andT, orT, notT, truT, trueD, truP, andE, orE, notE, iteE, isiE, isiP, tupE, lstE, celE, chainE, negE, slcE, someO, noO, cutP, mtE, mnE, parS, seqI, srcD, rngI1, rngI2, rg1, rg2, lrgE, lrgC, trgE, forS, ix0, ix1, ix2, ix3, ix4, ixl0, ixl1, gtP, ltP, leP, geP, addP, subP, absP, maxP, minP, intP, boolP, lenP, tupleP, listP, listC, sizeLine_eq]
    obtain ⟨r, l2, e2, r0, r1, hl2⟩ := draw_ok (m := 3) hl1 (by omega) (by omega) A T
    by_cases hr0 : r = 0
    · subst hr0
      refine ⟨.tuple [.str "read", .none], l2, fnM_dat ?_ (by simp), in_of (by simp [insB, str_lit, isNone]) (by decide) (by simp; exact gd_non) (by simp [szA, sz]), (by simp), hl2⟩
      simp [b_law_instruction, e1, e2, hm0, hm, in_s2, eqP_str, eqP_int, beq_lit, seqS, asgS, ifS, boolT, op2, retS, retN, dropS, varE, conE, blt, bltC, consA, nilA, tupT, subT, nmT, tsT, nxS, R.bind, R.bindS, opt, derefD, derefs, dats, datD, subV, callE, callK, pick, andT, orT, notT, truT, trueD, truP, andE, orE, notE, iteE, isiE, isiP, tupE, lstE, celE, chainE, negE, slcE, someO, noO, cutP, mtE, mnE, parS, seqI, srcD, rngI1, rngI2, rg1, rg2, lrgE, lrgC, trgE, forS, ix0, ix1, ix2, ix3, ix4, ixl0, ixl1, gtP, ltP, leP, geP, addP, subP, absP, maxP, minP, intP, boolP, lenP, tupleP, listP, listC, sizeLine_eq]
    obtain ⟨i, l3, e3, i0, i1, hl3⟩ := draw_ok (m := many) hl2 (by omega) (by omega) A T
    refine ⟨.tuple [.str "read", .int i], l3, fnM_dat ?_ (by simp), in_of (by simp [insB, str_lit, bel_of i0 i1]) (by decide) (by simp; exact gd_int (by omega)) (by simp [szA, sz]), (by simp), hl3⟩
    simp [b_law_instruction, e1, e2, e3, hm0, hr0, hm, in_s2, eqP_str, eqP_int, beq_lit, seqS, asgS, ifS, boolT, op2, retS, retN, dropS, varE, conE, blt, bltC, consA, nilA, tupT, subT, nmT, tsT, nxS, R.bind, R.bindS, opt, derefD, derefs, dats, datD, subV, callE, callK, pick, andT, orT, notT, truT, trueD, truP, andE, orE, notE, iteE, isiE, isiP, tupE, lstE, celE, chainE, negE, slcE, someO, noO, cutP, mtE, mnE, parS, seqI, srcD, rngI1, rngI2, rg1, rg2, lrgE, lrgC, trgE, forS, ix0, ix1, ix2, ix3, ix4, ixl0, ixl1, gtP, ltP, leP, geP, addP, subP, absP, maxP, minP, intP, boolP, lenP, tupleP, listP, listC, sizeLine_eq]
  · obtain ⟨x, l3, e3, hx, hl3⟩ := dsum_ok hl1 A T many m0 m8
    have hz := hx.sz
    refine ⟨.tuple [.str "tell", x], l3, fnM_dat ?_ (by simp), in_of (by simp [insB, str_lit, hx.is]) (by decide) (by simp; exact hx.gd4) (by simp [szA]; omega), (by simp), hl3⟩
    simp [b_law_instruction, e1, e3, hm, in_s2, eqP_str, beq_lit, seqS, asgS, ifS, boolT, op2, retS, retN, dropS, varE, conE, blt, bltC, consA, nilA, tupT, subT, nmT, tsT, nxS, R.bind, R.bindS, opt, derefD, derefs, dats, datD, subV, callE, callK, pick, andT, orT, notT, truT, trueD, truP, andE, orE, notE, iteE, isiE, isiP, tupE, lstE, celE, chainE, negE, slcE, someO, noO, cutP, mtE, mnE, parS, seqI, srcD, rngI1, rngI2, rg1, rg2, lrgE, lrgC, trgE, forS, ix0, ix1, ix2, ix3, ix4, ixl0, ixl1, gtP, ltP, leP, geP, addP, subP, absP, maxP, minP, intP, boolP, lenP, tupleP, listP, listC, sizeLine_eq]
  · obtain ⟨i, l2, e2, i0, i1, hl2⟩ := draw_ok (m := size) hl1 (by omega) (by omega) A T
    refine ⟨.tuple [.str "test", .int i], l2, fnM_dat ?_ (by simp), in_of (by simp [insB, str_lit, bel_of i0 i1]) (by decide) (by simp; exact gd_int (by omega)) (by simp [szA, sz]), (by simp [endW, str_lit]), hl2⟩
    simp [b_law_instruction, e1, e2, hm, in_s2, eqP_str, beq_lit, seqS, asgS, ifS, boolT, op2, retS, retN, dropS, varE, conE, blt, bltC, consA, nilA, tupT, subT, nmT, tsT, nxS, R.bind, R.bindS, opt, derefD, derefs, dats, datD, subV, callE, callK, pick, andT, orT, notT, truT, trueD, truP, andE, orE, notE, iteE, isiE, isiP, tupE, lstE, celE, chainE, negE, slcE, someO, noO, cutP, mtE, mnE, parS, seqI, srcD, rngI1, rngI2, rg1, rg2, lrgE, lrgC, trgE, forS, ix0, ix1, ix2, ix3, ix4, ixl0, ixl1, gtP, ltP, leP, geP, addP, subP, absP, maxP, minP, intP, boolP, lenP, tupleP, listP, listC, sizeLine_eq]
/-! ### lines drawn -/
theorem ins_drawn {l : List PD} (hl : Pot l) (A T : Store) (many size : Int) (last : Bool) (m0 : 0 ≤ many) (m8 : many ≤ 8) (s0 : 0 < size) (s9 : size ≤ 100) : ∃ v l', F_law_instruction [.ref A.length, .dat (.int many), .dat (.int size), .dat (.bool last)] (A ++ l :: T) = .ok (.dat v) (A ++ l' :: T) ∧ In many size v ∧ (last = true → endW v = true) ∧ Pot l' := by
  cases last with
  | true =>
    obtain ⟨v, l', e, h1, h2, h3⟩ := ins_last hl A T many size m0 m8 s0 s9
    exact ⟨v, l', e, h1, fun _ => h2 rfl, h3⟩
  | false =>
    by_cases hm : 0 < many
    · obtain ⟨v, l', e, h1, h2, h3⟩ := ins_many hl A T many size m0 m8 s0 s9 hm
      exact ⟨v, l', e, h1, (fun z => by cases z), h3⟩
    · obtain ⟨v, l', e, h1, h2, h3⟩ := ins_none hl A T many size m0 m8 s0 s9 hm
      exact ⟨v, l', e, h1, (fun z => by cases z), h3⟩
theorem lc_ok {l : List PD} (hl : Pot l) (A T : Store) (many : Int) (n : Nat) (m0 : 0 ≤ many) (m8 : many ≤ 8) (s0 : 0 < n) (s9 : n ≤ 40) (x1 x4 : Option D) :
    ∃ res l', c_law_line_0 [some (.ref A.length), x1, some (.dat (.int many)), some (.dat (.int (n : Nat))), x4] (A ++ l :: T) = .ok (.dat (.list res)) (A ++ l' :: T) ∧ res.length = n ∧ (∀ x ∈ res, In many n x) ∧ (∀ x, res.getLast? = some x → endW x = true) ∧ Pot l' := by
  obtain ⟨res, S', e, h1, h2, ⟨l2, rfl, hl2⟩⟩ := lcE_drawAt (it := rngI1 (varE 3)) (g := nmT 4) (fx := callE 4 F_law_instruction (consA (varE 0) (consA (varE 2) (consA (varE 3) (consA (op2 eqP (varE 4) (op2 subP (varE 3) (conE (.int 1)))) nilA))))) (vs := [4])
    (δ := [some (.ref A.length), x1, some (.dat (.int many)), some (.dat (.int (n : Nat))), x4]) (S := A ++ l :: T) (S1 := A ++ l :: T) (ds := rangeL 0 n) (fun S => ∃ l, S = A ++ l :: T ∧ Pot l) (fun p x => In many n x ∧ (p = .int ((n : Int) - 1) → endW x = true))
    (by
      have := rng_nat (fe := varE 3) (δ := [some (.ref A.length), x1, some (.dat (.int many)), some (.dat (.int (n : Nat))), x4]) (S := A ++ l :: T) (S1 := A ++ l :: T) (m := n) rfl (by omega) (by omega)
      rw [Int.toNat_natCast] at this
      exact this)
    ⟨l, rfl, hl⟩ (fun p hp S hS => by
      obtain ⟨l3, rfl, hl3⟩ := hS
      obtain ⟨i, hi, rfl⟩ := rangeL_mem hp
      obtain ⟨v, l4, e4, hv, hw, hl4⟩ := ins_drawn hl3 A T many n (decide (((0 : Int) + (i : Nat)) = (n : Int) - 1)) m0 m8 (by omega) (by omega)
      refine ⟨[some (.ref A.length), x1, some (.dat (.int many)), some (.dat (.int (n : Nat))), some (.dat (.int ((0 : Int) + (i : Nat))))], v, A ++ l4 :: T, by simp [nmT, wipeD], ?_, ⟨hv, fun q => hw (by simpa using q)⟩, l4, rfl, hl4⟩
      have e5 : ((0 : Int) + (i : Nat) == (n : Int) - 1) = decide (((0 : Int) + (i : Nat)) = (n : Int) - 1) := bdec_int _ _
      simp only [callE, consA, nilA, varE, op2, conE, eqP_int, subP, derefD, opt, R.bind, List.getElem?_cons_zero, List.getElem?_cons_succ, e5, e4, List.length_cons, List.length_nil, if_true]) (by rw [rangeL_len, sizeLine_eq]; omega)
  rw [rangeL_len] at h1
  refine ⟨res, l2, e, h1, fun x hx => ?_, fun x hx => ?_, hl2⟩
  · obtain ⟨i, hi, rfl⟩ := List.getElem_of_mem hx
    exact (h2 i _ _ (List.getElem?_eq_getElem (by rw [rangeL_len]; omega)) (List.getElem?_eq_getElem hi)).1
  · have hn : n - 1 < (rangeL 0 n).length := by rw [rangeL_len]; omega
    rw [List.getLast?_eq_getElem?, h1] at hx
    refine (h2 (n - 1) _ x (List.getElem?_eq_getElem hn) hx).2 ?_
    simp only [rangeL, List.getElem_map, List.getElem_range]
    rw [show (0 : Int) + ((n - 1 : Nat) : Int) = (n : Int) - 1 by omega]
structure Ln (v : PD) : Prop where
  is : lineB v = true
  gd : Gd 1000000000 7 v
  sz : sz v ≤ 6000
  nm : ∃ (many : Int) (n : Nat) (is : List PD), v = .tuple [.str "line", .int many, .tuple is] ∧ 0 ≤ many ∧ many ≤ 8 ∧ is.length = n ∧ 1 ≤ n ∧ n ≤ 31 ∧ ∀ x ∈ is, In many n x
theorem lcut_ok {l : List PD} (hl : Pot l) (A T : Store) (most : Int) (o1 : 1 ≤ most) (o2 : most ≤ 30) : ∃ v l', F_law_line [.ref A.length, .dat (.int most)] (A ++ l :: T) = .ok (.dat v) (A ++ l' :: T) ∧ Ln v ∧ Pot l' := by
  obtain ⟨m, l1, e1, hm, hl1⟩ := pick_ok (ds := [.int 0, .int 1, .int 2, .int 3, .int 8]) hl A T (by simp) (by simp)
  have : ∃ i : Int, m = .int i ∧ 0 ≤ i ∧ i ≤ 8 := by
    simp only [List.mem_cons, List.not_mem_nil, or_false] at hm
    rcases hm with rfl | rfl | rfl | rfl | rfl <;> exact ⟨_, rfl, by omega, by omega⟩
  obtain ⟨many, rfl, m0, m8⟩ := this
  obtain ⟨r, l2, e2, r0, r1, hl2⟩ := draw_ok (m := most) hl1 (by omega) (by omega) A T
  obtain ⟨n, hn⟩ : ∃ n : Nat, 1 + r = (n : Nat) := ⟨(1 + r).toNat, by omega⟩
  obtain ⟨res, l3, e3, h1, h2, h3, hl3⟩ := lc_ok hl2 A T many n m0 m8 (by omega) (by omega) (some (.dat (.int most))) none
  have nn : res ≠ [] := fun e => by rw [e] at h1; simp at h1; omega
  have hall : res.all (insB many res.length) = true := List.all_eq_true.mpr fun x hx => by rw [h1]; exact (h2 x hx).is
  refine ⟨.tuple [.str "line", .int many, .tuple res], l3, fnM_dat ?_ (by simp), ⟨?_, ?_, ?_, ⟨many, n, res, rfl, m0, m8, h1, by omega, by omega, h2⟩⟩, hl3⟩
  · rw [← hn] at e3
    simp [b_law_line, e1, e2, e3, seqS, asgS, ifS, boolT, op2, retS, retN, dropS, varE, conE, blt, bltC, consA, nilA, tupT, subT, nmT, tsT, nxS, R.bind, R.bindS, opt, derefD, derefs, dats, datD, subV, callE, callK, pick, andT, orT, notT, truT, trueD, truP, andE, orE, notE, iteE, isiE, isiP, tupE, lstE, celE, chainE, negE, slcE, someO, noO, cutP, mtE, mnE, parS, seqI, srcD, rngI1, rngI2, rg1, rg2, lrgE, lrgC, trgE, forS, ix0, ix1, ix2, ix3, ix4, ixl0, ixl1, gtP, ltP, leP, geP, addP, subP, absP, maxP, minP, intP, boolP, lenP, tupleP, listP, listC, sizeLine_eq]
  · have hl := h3 (res.getLast nn) (List.getLast?_eq_some_getLast nn)
    obtain ⟨w, t, he⟩ := ins_head (h2 _ (List.getLast_mem nn)).is
    have gl : res.getLast? = some (.tuple (.str w :: t)) := by rw [List.getLast?_eq_some_getLast nn, he]
    rw [he] at hl
    simp only [endW] at hl
    simp only [lineB, gl, hl, hall, belB]
    simp [m0, h1]
    omega
  · refine Gd.tup fun x hx => ?_
    simp only [List.mem_cons, List.not_mem_nil, or_false] at hx
    rcases hx with rfl | rfl | rfl
    · exact gd_lit
    · exact gd_int (by omega)
    · exact Gd.tup fun x hx => (h2 x hx).gd
  · have q : szA res ≤ res.length * 160 := szA_le fun x hx => (h2 x hx).sz
    have := sz_lit "line" 4 (by decide)
    simp only [DL.sz, szA] at *
    omega
end DL.k63

set_option Elab.async false
set_option linter.all false
set_option maxRecDepth 100000
set_option maxHeartbeats 4000000
namespace DL.k63
open PySem PySem.Spec PyProof.Rows L2 DL
/-! ### bytes -/
theorem get_last {S : Store} {x : List PD} : (S ++ [x])[S.length]? = some x := by simp
theorem set_last {S : Store} {x y : List PD} : (S ++ [x]).set S.length y = S ++ [y] := by simp
theorem get_last2 {S : Store} {j x : List PD} : (S ++ [j, x])[S.length + 1]? = some x := by simp
theorem set_last2 {S : Store} {j x y : List PD} : (S ++ [j, x]).set (S.length + 1) y = S ++ [j, y] := by simp
def cnt (n : Nat) : List PD := if n < 128 then [.int (n : Nat)] else .int ((128 + n % 128 : Nat) : Int) :: cnt (n / 128)
termination_by n
decreasing_by omega
theorem cnt_len : ∀ (k n : Nat), n < 128 ^ (k + 1) → (cnt n).length ≤ k + 1
  | 0, n, h => by rw [cnt, if_pos (by simpa using h)]; simp
  | k + 1, n, h => by
    rw [cnt]
    split
    · simp
    · have := cnt_len k (n / 128) (by rw [Nat.div_lt_iff_lt_mul (by omega)]; rw [Nat.pow_succ] at h; exact h)
      simp only [List.length_cons]; omega
theorem while_ok (S : Store) : ∀ (k n : Nat) (acc : List PD), n < 128 ^ (k + 1) → acc.length + k ≤ 1000 → ∃ (m : Nat) (acc' : List PD), l_count_bytes_1 [some (.dat (.int (n : Nat))), some (.ref S.length)] (S ++ [acc]) = .ok (.nx [some (.dat (.int (m : Nat))), some (.ref S.length)]) (S ++ [acc']) ∧ acc' ++ [.int (m : Nat)] = acc ++ cnt n ∧ acc'.length ≤ acc.length + k := by
  intro k
  induction k with
  | zero =>
    intro n acc h1 h2
    have h3 : n < 128 := by simpa using h1
    refine ⟨n, acc, ?_, by rw [cnt, if_pos h3], by omega⟩
    have h4 : ¬ (128 : Int) ≤ (n : Int) := by omega
    unfold l_count_bytes_1
    rw [whileS_step]
    simp [h4, seqS, asgS, ifS, boolT, op2, retS, retN, dropS, varE, conE, blt, bltC, consA, nilA, tupT, subT, nmT, tsT, nxS, R.bind, R.bindS, opt, derefD, derefs, dats, datD, subV, callE, callK, pick, andT, orT, notT, truT, trueD, truP, andE, orE, notE, iteE, isiE, isiP, tupE, lstE, celE, chainE, negE, slcE, someO, noO, cutP, mtE, mnE, parS, seqI, srcD, rngI1, rngI2, rg1, rg2, lrgE, lrgC, trgE, forS, ix0, ix1, ix2, ix3, ix4, ixl0, ixl1, gtP, ltP, leP, geP, addP, subP, absP, maxP, minP, intP, boolP, lenP, tupleP, listP, listC, sizeLine_eq]
  | succ k ih =>
    intro n acc h1 h2
    by_cases h3 : n < 128
    · refine ⟨n, acc, ?_, by rw [cnt, if_pos h3], by omega⟩
      have h4 : ¬ (128 : Int) ≤ (n : Int) := by omega
      unfold l_count_bytes_1
      rw [whileS_step]
      simp [h4, seqS, asgS, ifS, boolT, op2, retS, retN, dropS, varE, conE, blt, bltC, consA, nilA, tupT, subT, nmT, tsT, nxS, R.bind, R.bindS, opt, derefD, derefs, dats, datD, subV, callE, callK, pick, andT, orT, notT, truT, trueD, truP, andE, orE, notE, iteE, isiE, isiP, tupE, lstE, celE, chainE, negE, slcE, someO, noO, cutP, mtE, mnE, parS, seqI, srcD, rngI1, rngI2, rg1, rg2, lrgE, lrgC, trgE, forS, ix0, ix1, ix2, ix3, ix4, ixl0, ixl1, gtP, ltP, leP, geP, addP, subP, absP, maxP, minP, intP, boolP, lenP, tupleP, listP, listC, sizeLine_eq]
    · obtain ⟨m, acc', e1, e2, e3⟩ := ih (n / 128) (acc ++ [.int ((128 + n % 128 : Nat) : Int)]) (by rw [Nat.div_lt_iff_lt_mul (by omega)]; rw [Nat.pow_succ] at h1; exact h1) (by rw [List.length_append]; simp; omega)
      refine ⟨m, acc', ?_, ?_, by rw [List.length_append] at e3; simp at e3; omega⟩
      · have h4 : (128 : Int) ≤ (n : Int) := by omega
        have m1 : modP (.int (n : Nat)) (.int 128) = some (.int ((n % 128 : Nat) : Int)) := by rw [modP_pos (by omega)]; rfl
        have m2 : fdivP (.int (n : Nat)) (.int 128) = some (.int ((n / 128 : Nat) : Int)) := by rw [fdivP_pos (by omega) (by decide)]; rfl
        have hz : acc.length < 16777216 := by omega
        have m3 : (128 : Int) + ((n % 128 : Nat) : Int) = ((128 + n % 128 : Nat) : Int) := by omega
        have body : lb_count_bytes_0 [some (.dat (.int (n : Nat))), some (.ref S.length)] (S ++ [acc]) = .ok (.nx [some (.dat (.int ((n / 128 : Nat) : Int))), some (.ref S.length)]) (S ++ [acc ++ [.int ((128 + n % 128 : Nat) : Int)]]) := by
          simp only [lb_count_bytes_0, seqS, dropS, mtE, varE, consA, nilA, op2, conE, addP_int, m1, m2, m3, appP, asgS, nmT, nxS, dats, get_last, set_last, derefD, opt, R.bind, R.bindS, List.getElem?_cons_zero, List.getElem?_cons_succ, Option.map, Option.bind]
          rw [sizeLine_eq, if_pos hz]
          simp [m2]
        unfold l_count_bytes_1 at e1 ⊢
        rw [whileS_step]
        simp only [boolT, op2, geP, varE, conE, derefD, opt, R.bind, R.bindS, List.getElem?_cons_zero, h4, decide_true, if_true, body]
        exact e1
      · rw [e2]
        conv => rhs; rw [cnt, if_neg h3]
        simp
theorem count_bytes_ok (n : Nat) (h : n < 128 ^ 6) (S : Store) : F_count_bytes [.dat (.int (n : Nat))] S = .ok (.ref S.length) (S ++ [cnt n]) := by
  obtain ⟨m, acc', e1, e2, e3⟩ := while_ok S 5 n [] h (by simp)
  have hl := cnt_len 5 n h
  have e4 : b_count_bytes [some (.dat (.int (n : Nat))), none] S = .ok (.ret (.ref (S.length + 1))) (S ++ [acc', cnt n]) := by
    have hz : acc'.length + 1 ≤ 16777216 := by simp at e3; omega
    simp only [List.nil_append] at e2
    simp [b_count_bytes, catC, e1, e2, hz, get_last, seqS, asgS, ifS, boolT, op2, retS, retN, dropS, varE, conE, blt, bltC, consA, nilA, tupT, subT, nmT, tsT, nxS, R.bind, R.bindS, opt, derefD, derefs, dats, datD, subV, callE, callK, pick, andT, orT, notT, truT, trueD, truP, andE, orE, notE, iteE, isiE, isiP, tupE, lstE, celE, chainE, negE, slcE, someO, noO, cutP, mtE, mnE, parS, seqI, srcD, rngI1, rngI2, rg1, rg2, lrgE, lrgC, trgE, forS, ix0, ix1, ix2, ix3, ix4, ixl0, ixl1, gtP, ltP, leP, geP, addP, subP, absP, maxP, minP, intP, boolP, lenP, tupleP, listP, listC, sizeLine_eq]
  unfold F_count_bytes fnM
  simp only [List.map_cons, List.map_nil, List.replicate, List.cons_append, List.nil_append, e4, endD]
  rw [if_neg (by omega)]
  simp
theorem lcnt_ok (S : Store) : ∀ (k n fuel : Nat), n < 128 ^ (k + 1) → k ≤ 20 → k + 1 ≤ fuel → F_law_count fuel [.dat (.int (n : Nat))] S = .ok (.dat (.list (cnt n))) S
  | k, n, 0, _, _, h => by omega
  | 0, n, f + 1, h1, _, _ => by
    have h3 : n < 128 := by simpa using h1
    have h4 : (n : Int) < 128 := by omega
    refine fnM_dat ?_ rfl
    rw [cnt, if_pos h3]
    simp [b_law_count, h4, seqS, asgS, ifS, boolT, op2, retS, retN, dropS, varE, conE, blt, bltC, consA, nilA, tupT, subT, nmT, tsT, nxS, R.bind, R.bindS, opt, derefD, derefs, dats, datD, subV, callE, callK, pick, andT, orT, notT, truT, trueD, truP, andE, orE, notE, iteE, isiE, isiP, tupE, lstE, celE, chainE, negE, slcE, someO, noO, cutP, mtE, mnE, parS, seqI, srcD, rngI1, rngI2, rg1, rg2, lrgE, lrgC, trgE, forS, ix0, ix1, ix2, ix3, ix4, ixl0, ixl1, gtP, ltP, leP, geP, addP, subP, absP, maxP, minP, intP, boolP, lenP, tupleP, listP, listC, sizeLine_eq]
  | k + 1, n, f + 1, h1, h2, hf => by
    by_cases h3 : n < 128
    · have h4 : (n : Int) < 128 := by omega
      refine fnM_dat ?_ rfl
      rw [cnt, if_pos h3]
      simp [b_law_count, h4, seqS, asgS, ifS, boolT, op2, retS, retN, dropS, varE, conE, blt, bltC, consA, nilA, tupT, subT, nmT, tsT, nxS, R.bind, R.bindS, opt, derefD, derefs, dats, datD, subV, callE, callK, pick, andT, orT, notT, truT, trueD, truP, andE, orE, notE, iteE, isiE, isiP, tupE, lstE, celE, chainE, negE, slcE, someO, noO, cutP, mtE, mnE, parS, seqI, srcD, rngI1, rngI2, rg1, rg2, lrgE, lrgC, trgE, forS, ix0, ix1, ix2, ix3, ix4, ixl0, ixl1, gtP, ltP, leP, geP, addP, subP, absP, maxP, minP, intP, boolP, lenP, tupleP, listP, listC, sizeLine_eq]
    · have h4 : ¬ (n : Int) < 128 := by omega
      have hd : n / 128 < 128 ^ (k + 1) := by rw [Nat.div_lt_iff_lt_mul (by omega)]; rw [Nat.pow_succ] at h1; exact h1
      have ih := lcnt_ok S k (n / 128) f hd (by omega) (by omega)
      have hl := cnt_len k (n / 128) hd
      have m1 : modP (.int (n : Nat)) (.int 128) = some (.int ((n % 128 : Nat) : Int)) := by rw [modP_pos (by omega)]; rfl
      have m2 : fdivP (.int (n : Nat)) (.int 128) = some (.int ((n / 128 : Nat) : Int)) := by rw [fdivP_pos (by omega) (by decide)]; rfl
      have m3 : (128 : Int) + ((n % 128 : Nat) : Int) = ((128 + n % 128 : Nat) : Int) := by omega
      have a1 : addP (.list [.int ((128 + n % 128 : Nat) : Int)]) (.list (cnt (n / 128))) = some (.list ([.int ((128 + n % 128 : Nat) : Int)] ++ cnt (n / 128))) := addP_list (by simp; omega)
      refine fnM_dat ?_ rfl
      rw [cnt, if_neg h3]
      simp only [b_law_count, List.map_cons, List.map_nil, List.replicate, List.append_nil, seqS, retS, iteE, boolT, op2, ltP, varE, conE, lstE, consA, nilA, blt, intP, callE, dats, addP_int, m1, m2, m3, ih, a1, derefs, derefD, opt, R.bind, R.bindS, List.getElem?_cons_zero, Option.bind, Option.map, List.length_cons, List.length_nil, sizeLine_eq, h4, decide_false, Bool.false_eq_true, if_false, if_true, Nat.reduceLeDiff, List.cons_append, List.nil_append]
def itN (i : Int) : Nat := (if 0 ≤ i then 2 * i else -2 * i - 1).toNat
def itg (i : Int) : List PD := cnt (itN i)
theorem itN_lt {i : Int} (h1 : -1000000000 ≤ i) (h2 : i ≤ 1000000000) : itN i < 128 ^ 5 := by
  unfold itN
  split <;> omega
theorem itg_len {i : Int} (h1 : -1000000000 ≤ i) (h2 : i ≤ 1000000000) : (itg i).length ≤ 5 := cnt_len 4 _ (itN_lt h1 h2)
theorem integer_bytes_ok {i : Int} (h1 : -1000000000 ≤ i) (h2 : i ≤ 1000000000) (S : Store) : F_integer_bytes [.dat (.int i)] S = .ok (.dat (.list (itg i))) S := by
  have lt := itN_lt h1 h2
  have c := count_bytes_ok (itN i) (Nat.lt_trans lt (by decide)) S
  have m1 : mulP (.int 2) (.int i) = some (.int (2 * i)) := mulP_small (by omega) (by omega)
  have m2 : mulP (.int (-2)) (.int i) = some (.int (-2 * i)) := mulP_small (by omega) (by omega)
  refine (fnM_cell (n := S.length) (es := itg i) (S' := S ++ [itg i]) ?_ (Nat.le_refl _) get_last).trans (by simp)
  by_cases h : 0 ≤ i
  · have e : ((itN i : Nat) : Int) = 2 * i := by unfold itN; rw [if_pos h]; omega
    rw [e] at c
    simp [b_integer_bytes, h, m1, c, itg, seqS, asgS, ifS, boolT, op2, retS, retN, dropS, varE, conE, blt, bltC, consA, nilA, tupT, subT, nmT, tsT, nxS, R.bind, R.bindS, opt, derefD, derefs, dats, datD, subV, callE, callK, pick, andT, orT, notT, truT, trueD, truP, andE, orE, notE, iteE, isiE, isiP, tupE, lstE, celE, chainE, negE, slcE, someO, noO, cutP, mtE, mnE, parS, seqI, srcD, rngI1, rngI2, rg1, rg2, lrgE, lrgC, trgE, forS, ix0, ix1, ix2, ix3, ix4, ixl0, ixl1, gtP, ltP, leP, geP, addP, subP, absP, maxP, minP, intP, boolP, lenP, tupleP, listP, listC, sizeLine_eq]
  · have e : ((itN i : Nat) : Int) = -2 * i - 1 := by unfold itN; rw [if_neg h]; omega
    rw [e] at c
    simp only [b_integer_bytes, List.map_cons, List.map_nil, List.replicate, List.append_nil, seqS, retS, callE, consA, nilA, iteE, boolT, op2, geP, varE, conE, negE, subP, m2, c, itg, derefD, opt, R.bind, R.bindS, List.getElem?_cons_zero, h, decide_false, Bool.false_eq_true, if_false, List.length_cons, List.length_nil, if_true]
theorem lint_ok {i : Int} (h1 : -1000000000 ≤ i) (h2 : i ≤ 1000000000) (S : Store) : F_law_integer [.dat (.int i)] S = .ok (.dat (.list (itg i))) S := by
  have lt := itN_lt h1 h2
  have c := lcnt_ok S 4 (itN i) 8 lt (by omega) (by omega)
  have m1 : mulP (.int 2) (.int i) = some (.int (2 * i)) := mulP_small (by omega) (by omega)
  have m2 : mulP (.int (-2)) (.int i) = some (.int (-2 * i)) := mulP_small (by omega) (by omega)
  refine fnM_dat ?_ rfl
  by_cases h : 0 ≤ i
  · have e : ((itN i : Nat) : Int) = 2 * i := by unfold itN; rw [if_pos h]; omega
    rw [e] at c
    simp [b_law_integer, h, m1, c, itg, seqS, asgS, ifS, boolT, op2, retS, retN, dropS, varE, conE, blt, bltC, consA, nilA, tupT, subT, nmT, tsT, nxS, R.bind, R.bindS, opt, derefD, derefs, dats, datD, subV, callE, callK, pick, andT, orT, notT, truT, trueD, truP, andE, orE, notE, iteE, isiE, isiP, tupE, lstE, celE, chainE, negE, slcE, someO, noO, cutP, mtE, mnE, parS, seqI, srcD, rngI1, rngI2, rg1, rg2, lrgE, lrgC, trgE, forS, ix0, ix1, ix2, ix3, ix4, ixl0, ixl1, gtP, ltP, leP, geP, addP, subP, absP, maxP, minP, intP, boolP, lenP, tupleP, listP, listC, sizeLine_eq]
  · have e : ((itN i : Nat) : Int) = -2 * i - 1 := by unfold itN; rw [if_neg h]; omega
    rw [e] at c
    simp only [b_law_integer, List.map_cons, List.map_nil, List.replicate, List.append_nil, seqS, retS, callE, consA, nilA, iteE, boolT, op2, geP, varE, conE, negE, subP, m2, c, itg, derefD, opt, R.bind, R.bindS, List.getElem?_cons_zero, h, decide_false, Bool.false_eq_true, if_false, List.length_cons, List.length_nil, if_true]
end DL.k63

set_option Elab.async false
set_option linter.all false
set_option maxRecDepth 100000
set_option maxHeartbeats 4000000
namespace DL.k63
open PySem PySem.Spec PyProof.Rows L2 DL
/-! ### sums as bytes -/
def termD : PD → List PD
  | .tuple [.int a, .int b] => .int a :: itg b
  | _ => []
def sumD : PD → List PD
  | .tuple [.int c, .tuple ts] => itg c ++ cnt ts.length ++ (ts.map termD).flatten
  | _ => []
/-- a sum, opened -/
structure Sf (c : Int) (ts : List PD) : Prop where
  c1 : -1000000000 ≤ c
  c2 : c ≤ 1000000000
  len : ts.length ≤ 8
  two : ∀ t ∈ ts, ∃ a b : Int, t = .tuple [.int a, .int b] ∧ -1000000000 ≤ b ∧ b ≤ 1000000000
theorem three_len : ∀ {ts : List PD}, (∀ t ∈ ts, ∃ a b : Int, t = .tuple [.int a, .int b] ∧ -1000000000 ≤ b ∧ b ≤ 1000000000) → 3 * ts.length ≤ szA ts
  | [], _ => by simp [szA]
  | t :: ts, h => by
    obtain ⟨a, b, rfl, _⟩ := h t (by simp)
    have := three_len fun t ht => h t (List.mem_cons_of_mem _ ht)
    simp only [szA, sz, List.length_cons]; omega
theorem sf_of {many : Int} {v : PD} (h : Sm many v) : ∃ c ts, v = .tuple [.int c, .tuple ts] ∧ Sf c ts := by
  have h1 := h.is
  unfold smB at h1
  split at h1
  · rename_i c ts
    simp only [amtB, Bool.and_eq_true, decide_eq_true_eq] at h1
    obtain ⟨⟨q1, q2⟩, q3, _⟩ := h1
    have two : ∀ t ∈ ts, ∃ a b : Int, t = .tuple [.int a, .int b] ∧ -1000000000 ≤ b ∧ b ≤ 1000000000 := fun t ht => by
      have := List.all_eq_true.mp q3 t ht
      unfold tmB at this
      split at this
      · rename_i a b
        simp only [Bool.and_eq_true, decide_eq_true_eq] at this
        exact ⟨a, b, rfl, this.1.2.1, this.1.2.2⟩
      · cases this
    have hs := h.sz
    have hl := three_len two
    simp only [DL.sz, szA] at hs
    exact ⟨c, ts, rfl, by omega, by omega, by omega, two⟩
  · cases h1
theorem cnt_small {n : Nat} (h : n < 128) : (cnt n).length = 1 := by rw [cnt, if_pos h]; rfl
theorem flat_len : ∀ {ts : List PD}, (∀ t ∈ ts, ∃ a b : Int, t = .tuple [.int a, .int b] ∧ -1000000000 ≤ b ∧ b ≤ 1000000000) → (ts.map termD).flatten.length ≤ 6 * ts.length
  | [], _ => by simp
  | t :: ts, h => by
    obtain ⟨a, b, rfl, b1, b2⟩ := h t (by simp)
    have := flat_len fun t ht => h t (List.mem_cons_of_mem _ ht)
    have := itg_len b1 b2
    simp only [List.map_cons, List.flatten_cons, List.length_append, termD, List.length_cons]; omega
theorem sumD_len {c : Int} {ts : List PD} (h : Sf c ts) : (sumD (.tuple [.int c, .tuple ts])).length ≤ 54 := by
  have h1 := itg_len h.c1 h.c2
  have h2 := cnt_small (n := ts.length) (by have := h.len; omega)
  have h3 := flat_len h.two
  have := h.len
  simp only [sumD, List.length_append]; omega
theorem sbytes_loop (S : Store) (j : List PD) (v : PD) (src : Src) (hs : ∀ S, src.ok S) : ∀ (ts acc : List PD) (x y : Option D), (∀ t ∈ ts, ∃ a b : Int, t = .tuple [.int a, .int b] ∧ -1000000000 ≤ b ∧ b ≤ 1000000000) → acc.length + 6 * ts.length ≤ 1000 →
    ∃ x' y', forF src (tupT [(nmT 2), (nmT 3)]) lb_sum_bytes_0 ts [some (.dat v), some (.ref (S.length + 1)), x, y] (S ++ [j, acc]) = .ok (.nx [some (.dat v), some (.ref (S.length + 1)), x', y']) (S ++ [j, acc ++ (ts.map termD).flatten])
  | [], acc, x, y, _, _ => ⟨x, y, by rw [forF_nil (hs _)]; simp⟩
  | t :: ts, acc, x, y, h, hz => by
    obtain ⟨a, b, rfl, b1, b2⟩ := h t (by simp)
    have hl := itg_len b1 b2
    simp only [List.length_cons] at hz
    obtain ⟨x', y', ih⟩ := sbytes_loop S j v src hs ts (acc ++ (.int a :: itg b)) (some (.dat (.int a))) (some (.dat (.int b))) (fun t ht => h t (List.mem_cons_of_mem _ ht)) (by rw [List.length_append]; simp; omega)
    refine ⟨x', y', ?_⟩
    have e := integer_bytes_ok b1 b2 (S ++ [j, acc])
    have a1 : addP (.list [.int a]) (.list (itg b)) = some (.list (.int a :: itg b)) := addP_list (by simp; omega)
    have hz2 : acc.length + ((itg b).length + 1) ≤ 16777216 := by omega
    have body : lb_sum_bytes_0 [some (.dat v), some (.ref (S.length + 1)), some (.dat (.int a)), some (.dat (.int b))] (S ++ [j, acc]) = .ok (.nx [some (.dat v), some (.ref (S.length + 1)), some (.dat (.int a)), some (.dat (.int b))]) (S ++ [j, acc ++ (.int a :: itg b)]) := by
      simp only [lb_sum_bytes_0, seqS, dropS, mtE, varE, consA, nilA, op2, lstE, callE, extP, nxS, dats, e, a1, derefD, opt, R.bind, R.bindS, List.getElem?_cons_zero, List.getElem?_cons_succ, Option.map, Option.bind, List.length_cons, List.length_nil, if_true, sizeLine_eq, Nat.reduceLeDiff, get_last2, set_last2, hz2]
    rw [forF_step (hs _) (δ1 := [some (.dat v), some (.ref (S.length + 1)), some (.dat (.int a)), some (.dat (.int b))]) (S1 := S ++ [j, acc]) (by simp [tupT, tsT, nmT, R.bind]) body, ih]
    simp [termD]
theorem sum_bytes_ok {c : Int} {ts : List PD} (h : Sf c ts) (S : Store) : F_sum_bytes [.dat (.tuple [.int c, .tuple ts])] S = .ok (.dat (.list (sumD (.tuple [.int c, .tuple ts])))) S := by
  have l1 := itg_len h.c1 h.c2
  have l2 := cnt_small (n := ts.length) (by have := h.len; omega)
  have hlen := h.len
  obtain ⟨x', y', e3⟩ := sbytes_loop S (cnt ts.length) (.tuple [.int c, .tuple ts]) ⟨ts, []⟩ (fun _ => ok_nil) ts (itg c ++ cnt ts.length) none none h.two (by rw [List.length_append]; omega)
  have e1 := integer_bytes_ok h.c1 h.c2 S
  have e2 := count_bytes_ok ts.length (by omega) S
  have hz : (itg c).length + (cnt ts.length).length ≤ 16777216 := by omega
  have e4 : l_sum_bytes_1 [some (.dat (.tuple [.int c, .tuple ts])), some (.ref (S.length + 1)), none, none] (S ++ [cnt ts.length, itg c ++ cnt ts.length]) = .ok (.nx [some (.dat (.tuple [.int c, .tuple ts])), some (.ref (S.length + 1)), x', y']) (S ++ [cnt ts.length, sumD (.tuple [.int c, .tuple ts])]) := by
    simp only [l_sum_bytes_1, forS, seqI, op2, varE, conE, srcD, ix1, derefD, opt, R.bind, R.bindS, List.getElem?_cons_zero]
    exact e3
  refine (fnM_cell (n := S.length + 1) (es := sumD (.tuple [.int c, .tuple ts])) (S' := S ++ [cnt ts.length, sumD (.tuple [.int c, .tuple ts])]) ?_ (by omega) get_last2).trans (by simp)
  simp [b_sum_bytes, catC, e1, e2, e4, hz, get_last, seqS, asgS, ifS, boolT, op2, retS, retN, dropS, varE, conE, blt, bltC, consA, nilA, tupT, subT, nmT, tsT, nxS, R.bind, R.bindS, opt, derefD, derefs, dats, datD, subV, callE, callK, pick, andT, orT, notT, truT, trueD, truP, andE, orE, notE, iteE, isiE, isiP, tupE, lstE, celE, chainE, negE, slcE, someO, noO, cutP, mtE, mnE, parS, seqI, srcD, rngI1, rngI2, rg1, rg2, lrgE, lrgC, trgE, forS, ix0, ix1, ix2, ix3, ix4, ixl0, ixl1, gtP, ltP, leP, geP, addP, subP, absP, maxP, minP, intP, boolP, lenP, tupleP, listP, listC, sizeLine_eq]
theorem lsbytes_loop (S : Store) (v : PD) (src : Src) (hs : ∀ S, src.ok S) : ∀ (ts acc : List PD) (x y : Option D), (∀ t ∈ ts, ∃ a b : Int, t = .tuple [.int a, .int b] ∧ -1000000000 ≤ b ∧ b ≤ 1000000000) → acc.length + 6 * ts.length ≤ 1000 →
    ∃ x' y', forF src (tupT [(nmT 2), (nmT 3)]) lb_law_sum_bytes_0 ts [some (.dat v), some (.dat (.list acc)), x, y] S = .ok (.nx [some (.dat v), some (.dat (.list (acc ++ (ts.map termD).flatten))), x', y']) S
  | [], acc, x, y, _, _ => ⟨x, y, by rw [forF_nil (hs _)]; simp⟩
  | t :: ts, acc, x, y, h, hz => by
    obtain ⟨a, b, rfl, b1, b2⟩ := h t (by simp)
    have hl := itg_len b1 b2
    simp only [List.length_cons] at hz
    obtain ⟨x', y', ih⟩ := lsbytes_loop S v src hs ts (acc ++ (.int a :: itg b)) (some (.dat (.int a))) (some (.dat (.int b))) (fun t ht => h t (List.mem_cons_of_mem _ ht)) (by rw [List.length_append]; simp; omega)
    refine ⟨x', y', ?_⟩
    have e := lint_ok b1 b2 S
    have a0 : addP (.list acc) (.list [.int a]) = some (.list (acc ++ [.int a])) := addP_list (by simp; omega)
    have a1 : addP (.list (acc ++ [.int a])) (.list (itg b)) = some (.list (acc ++ [.int a] ++ itg b)) := addP_list (by rw [List.length_append]; simp; omega)
    have body : lb_law_sum_bytes_0 [some (.dat v), some (.dat (.list acc)), some (.dat (.int a)), some (.dat (.int b))] S = .ok (.nx [some (.dat v), some (.dat (.list (acc ++ (.int a :: itg b)))), some (.dat (.int a)), some (.dat (.int b))]) S := by
      simp only [lb_law_sum_bytes_0, seqS, asgS, nmT, varE, consA, nilA, op2, lstE, callE, nxS, dats, e, a0, a1, derefD, opt, R.bind, R.bindS, List.getElem?_cons_zero, List.getElem?_cons_succ, Option.map, Option.bind, List.length_cons, List.length_nil, if_true, sizeLine_eq, Nat.reduceLeDiff]
      simp [e, a0, a1]
    rw [forF_step (hs _) (δ1 := [some (.dat v), some (.dat (.list acc)), some (.dat (.int a)), some (.dat (.int b))]) (S1 := S) (by simp [tupT, tsT, nmT, R.bind]) body, ih]
    simp [termD]
theorem lsum_bytes_ok {c : Int} {ts : List PD} (h : Sf c ts) (S : Store) : F_law_sum_bytes [.dat (.tuple [.int c, .tuple ts])] S = .ok (.dat (.list (sumD (.tuple [.int c, .tuple ts])))) S := by
  have l1 := itg_len h.c1 h.c2
  have l2 := cnt_small (n := ts.length) (by have := h.len; omega)
  have hlen := h.len
  obtain ⟨x', y', e3⟩ := lsbytes_loop S (.tuple [.int c, .tuple ts]) ⟨ts, []⟩ (fun _ => ok_nil) ts (itg c ++ cnt ts.length) none none h.two (by rw [List.length_append]; omega)
  have e1 := lint_ok h.c1 h.c2 S
  have e2 := lcnt_ok S 0 ts.length 8 (by simpa using (by omega : ts.length < 128)) (by omega) (by omega)
  have a0 : addP (.list (itg c)) (.list (cnt ts.length)) = some (.list (itg c ++ cnt ts.length)) := addP_list (by omega)
  have e4 : l_law_sum_bytes_1 [some (.dat (.tuple [.int c, .tuple ts])), some (.dat (.list (itg c ++ cnt ts.length))), none, none] S = .ok (.nx [some (.dat (.tuple [.int c, .tuple ts])), some (.dat (.list (sumD (.tuple [.int c, .tuple ts])))), x', y']) S := by
    simp only [l_law_sum_bytes_1, forS, seqI, op2, varE, conE, srcD, ix1, derefD, opt, R.bind, R.bindS, List.getElem?_cons_zero]
    exact e3
  refine fnM_dat ?_ rfl
  simp only [b_law_sum_bytes, List.map_cons, List.map_nil, List.replicate, List.cons_append, List.nil_append, seqS, asgS, nmT, retS, op2, callE, consA, nilA, varE, conE, blt, lenP, ix0, ix1, e1, e2, e4, a0, derefs, derefD, opt, R.bind, R.bindS, List.getElem?_cons_zero, List.getElem?_cons_succ, Option.map, Option.bind, List.length_cons, List.length_nil, if_true, List.set]
/-- rows of sums -/
def sumsD (vs : List PD) : List PD := cnt vs.length ++ (vs.map sumD).flatten
theorem sums_flat : ∀ {vs : List PD}, (∀ v ∈ vs, ∃ c ts, v = .tuple [.int c, .tuple ts] ∧ Sf c ts) → (vs.map sumD).flatten.length ≤ 54 * vs.length
  | [], _ => by simp
  | v :: vs, h => by
    obtain ⟨c, ts, rfl, hf⟩ := h v (by simp)
    have := sums_flat fun v hv => h v (List.mem_cons_of_mem _ hv)
    have := sumD_len hf
    simp only [List.map_cons, List.flatten_cons, List.length_append, List.length_cons]; omega
theorem ssbytes_loop (S : Store) (v0 : PD) (src : Src) (hs : ∀ S, src.ok S) : ∀ (vs acc : List PD) (x : Option D), (∀ v ∈ vs, ∃ c ts, v = .tuple [.int c, .tuple ts] ∧ Sf c ts) → acc.length + 54 * vs.length ≤ 1000 →
    ∃ x', forF src (nmT 2) lb_sums_bytes_0 vs [some (.dat v0), some (.ref S.length), x] (S ++ [acc]) = .ok (.nx [some (.dat v0), some (.ref S.length), x']) (S ++ [acc ++ (vs.map sumD).flatten])
  | [], acc, x, _, _ => ⟨x, by rw [forF_nil (hs _)]; simp⟩
  | v :: vs, acc, x, h, hz => by
    obtain ⟨c, ts, rfl, hf⟩ := h v (by simp)
    have hl := sumD_len hf
    simp only [List.length_cons] at hz
    obtain ⟨x', ih⟩ := ssbytes_loop S v0 src hs vs (acc ++ sumD (.tuple [.int c, .tuple ts])) (some (.dat (.tuple [.int c, .tuple ts]))) (fun t ht => h t (List.mem_cons_of_mem _ ht)) (by rw [List.length_append]; omega)
    refine ⟨x', ?_⟩
    have e := sum_bytes_ok hf (S ++ [acc])
    have hz2 : acc.length + (sumD (.tuple [.int c, .tuple ts])).length ≤ 16777216 := by omega
    have body : lb_sums_bytes_0 [some (.dat v0), some (.ref S.length), some (.dat (.tuple [.int c, .tuple ts]))] (S ++ [acc]) = .ok (.nx [some (.dat v0), some (.ref S.length), some (.dat (.tuple [.int c, .tuple ts]))]) (S ++ [acc ++ sumD (.tuple [.int c, .tuple ts])]) := by
      simp [lb_sums_bytes_0, e, extP, hz2, get_last, set_last, seqS, asgS, ifS, boolT, op2, retS, retN, dropS, varE, conE, blt, bltC, consA, nilA, tupT, subT, nmT, tsT, nxS, R.bind, R.bindS, opt, derefD, derefs, dats, datD, subV, callE, callK, pick, andT, orT, notT, truT, trueD, truP, andE, orE, notE, iteE, isiE, isiP, tupE, lstE, celE, chainE, negE, slcE, someO, noO, cutP, mtE, mnE, parS, seqI, srcD, rngI1, rngI2, rg1, rg2, lrgE, lrgC, trgE, forS, ix0, ix1, ix2, ix3, ix4, ixl0, ixl1, gtP, ltP, leP, geP, addP, subP, absP, maxP, minP, intP, boolP, lenP, tupleP, listP, listC, sizeLine_eq]
    rw [forF_step (hs _) (δ1 := [some (.dat v0), some (.ref S.length), some (.dat (.tuple [.int c, .tuple ts]))]) (S1 := S ++ [acc]) (by simp [nmT]) body, ih]
    simp
theorem sums_bytes_ok {vs : List PD} (h : ∀ v ∈ vs, ∃ c ts, v = .tuple [.int c, .tuple ts] ∧ Sf c ts) (h4 : vs.length ≤ 4) (S : Store) : F_sums_bytes [.dat (.tuple vs)] S = .ok (.dat (.list (sumsD vs))) S := by
  have l2 := cnt_small (n := vs.length) (by omega)
  obtain ⟨x', e3⟩ := ssbytes_loop S (.tuple vs) ⟨vs, []⟩ (fun _ => ok_nil) vs (cnt vs.length) none h (by omega)
  have e2 := count_bytes_ok vs.length (by omega) S
  have e4 : l_sums_bytes_1 [some (.dat (.tuple vs)), some (.ref S.length), none] (S ++ [cnt vs.length]) = .ok (.nx [some (.dat (.tuple vs)), some (.ref S.length), x']) (S ++ [sumsD vs]) := by
    simp only [l_sums_bytes_1, forS, seqI, varE, srcD, opt, R.bind, R.bindS, List.getElem?_cons_zero]
    exact e3
  refine (fnM_cell (n := S.length) (es := sumsD vs) (S' := S ++ [sumsD vs]) ?_ (by omega) get_last).trans (by simp)
  simp [b_sums_bytes, e2, e4, seqS, asgS, ifS, boolT, op2, retS, retN, dropS, varE, conE, blt, bltC, consA, nilA, tupT, subT, nmT, tsT, nxS, R.bind, R.bindS, opt, derefD, derefs, dats, datD, subV, callE, callK, pick, andT, orT, notT, truT, trueD, truP, andE, orE, notE, iteE, isiE, isiP, tupE, lstE, celE, chainE, negE, slcE, someO, noO, cutP, mtE, mnE, parS, seqI, srcD, rngI1, rngI2, rg1, rg2, lrgE, lrgC, trgE, forS, ix0, ix1, ix2, ix3, ix4, ixl0, ixl1, gtP, ltP, leP, geP, addP, subP, absP, maxP, minP, intP, boolP, lenP, tupleP, listP, listC, sizeLine_eq]
theorem lpart_loop (S : Store) (v0 w0 : D) (src : Src) (hs : ∀ S, src.ok S) : ∀ (vs acc : List PD) (x : Option D), (∀ v ∈ vs, ∃ c ts, v = .tuple [.int c, .tuple ts] ∧ Sf c ts) → acc.length + 54 * vs.length ≤ 1000 →
    ∃ x', forF src (nmT 3) lb_law_parts_0 vs [some v0, some w0, some (.dat (.list acc)), x] S = .ok (.nx [some v0, some w0, some (.dat (.list (acc ++ (vs.map sumD).flatten))), x']) S
  | [], acc, x, _, _ => ⟨x, by rw [forF_nil (hs _)]; simp⟩
  | v :: vs, acc, x, h, hz => by
    obtain ⟨c, ts, rfl, hf⟩ := h v (by simp)
    have hl := sumD_len hf
    simp only [List.length_cons] at hz
    obtain ⟨x', ih⟩ := lpart_loop S v0 w0 src hs vs (acc ++ sumD (.tuple [.int c, .tuple ts])) (some (.dat (.tuple [.int c, .tuple ts]))) (fun t ht => h t (List.mem_cons_of_mem _ ht)) (by rw [List.length_append]; omega)
    refine ⟨x', ?_⟩
    have e := lsum_bytes_ok hf S
    have a1 : addP (.list acc) (.list (sumD (.tuple [.int c, .tuple ts]))) = some (.list (acc ++ sumD (.tuple [.int c, .tuple ts]))) := addP_list (by omega)
    have body : lb_law_parts_0 [some v0, some w0, some (.dat (.list acc)), some (.dat (.tuple [.int c, .tuple ts]))] S = .ok (.nx [some v0, some w0, some (.dat (.list (acc ++ sumD (.tuple [.int c, .tuple ts])))), some (.dat (.tuple [.int c, .tuple ts]))]) S := by
      simp [lb_law_parts_0, e, a1, seqS, asgS, ifS, boolT, op2, retS, retN, dropS, varE, conE, blt, bltC, consA, nilA, tupT, subT, nmT, tsT, nxS, R.bind, R.bindS, opt, derefD, derefs, dats, datD, subV, callE, callK, pick, andT, orT, notT, truT, trueD, truP, andE, orE, notE, iteE, isiE, isiP, tupE, lstE, celE, chainE, negE, slcE, someO, noO, cutP, mtE, mnE, parS, seqI, srcD, rngI1, rngI2, rg1, rg2, lrgE, lrgC, trgE, forS, ixP, atI, ixN, gtP, ltP, leP, geP, subP, absP, maxP, minP, intP, boolP, lenP, tupleP, listP, listC]
    rw [forF_step (hs _) (δ1 := [some v0, some w0, some (.dat (.list acc)), some (.dat (.tuple [.int c, .tuple ts]))]) (S1 := S) (by simp [nmT]) body, ih]
    simp
end DL.k63

set_option Elab.async false
set_option linter.all false
set_option maxRecDepth 100000
set_option maxHeartbeats 4000000
namespace DL.k63
open PySem PySem.Spec PyProof.Rows L2 DL
/-! ### one instruction -/
/-- what is seen of an instruction: its word, whether it leads on, its number, the bytes behind, where it leads -/
structure IV where
  v : PD
  w : Str
  b : Bool
  i : Int
  rs : List PD
  t : Int
structure IVok (n : Nat) (x : IV) : Prop where
  hd : ∃ r, x.v = .tuple (.str x.w :: r)
  to : (x.w == Str.ofString "test" || (x.w == Str.ofString "go" || (x.w == Str.ofString "share" || (x.w == Str.ofString "call" || x.w == Str.ofString "jump")))) = x.b
  pl : x.b = false → ∀ S, F_plain_bytes [.dat x.v] S = .ok (.dat (.list (.int x.i :: x.rs))) S
  tl : x.b = true → ∀ S, F_tail_bytes [.dat x.v] S = .ok (.dat (.list x.rs)) S
  lp : ∀ S, F_law_parts [.dat x.v] S = .ok (.dat (.tuple [.int x.i, .list x.rs])) S
  i0 : 0 ≤ x.i
  i6 : x.i < 6 ↔ x.b = false
  ix : x.b = true → ∃ k : Nat, placeS x.w ["test", "go", "share", "call", "jump"] = some k ∧ x.i = 6 + 2 * (k : Nat)
  t : x.b = true → (ixP x.v (.int 1) = some (.int x.t) ∧ 0 ≤ x.t ∧ x.t < n)
  ln : x.rs.length ≤ 230
  ai : ∀ z ∈ x.rs, ∃ i : Int, z = .int i
theorem cnt_int (n : Nat) : ∀ z ∈ cnt n, ∃ i : Int, z = .int i := by
  induction n using Nat.strongRecOn with
  | ind n ih =>
    intro z hz
    rw [cnt] at hz
    split at hz
    · rw [List.mem_singleton] at hz; exact ⟨_, hz⟩
    · rcases List.mem_cons.mp hz with q | q
      · exact ⟨_, q⟩
      · exact ih (n / 128) (by omega) z q
theorem sumD_int {c : Int} {ts : List PD} (h : Sf c ts) : ∀ z ∈ sumD (.tuple [.int c, .tuple ts]), ∃ i : Int, z = .int i := by
  intro z hz
  simp only [sumD, List.mem_append] at hz
  rcases hz with (q | q) | q
  · exact cnt_int _ z q
  · exact cnt_int _ z q
  · obtain ⟨l, hl, hz⟩ := List.mem_flatten.mp q
    obtain ⟨t, ht, rfl⟩ := List.mem_map.mp hl
    obtain ⟨a, b, rfl, _⟩ := h.two t ht
    simp only [termD] at hz
    rcases List.mem_cons.mp hz with q | q
    · exact ⟨_, q⟩
    · exact cnt_int _ z q
theorem sumsD_int {vs : List PD} (h : ∀ v ∈ vs, ∃ c ts, v = .tuple [.int c, .tuple ts] ∧ Sf c ts) : ∀ z ∈ sumsD vs, ∃ i : Int, z = .int i := by
  intro z hz
  simp only [sumsD, List.mem_append] at hz
  rcases hz with q | q
  · exact cnt_int _ z q
  · obtain ⟨l, hl, hz⟩ := List.mem_flatten.mp q
    obtain ⟨v, hv, rfl⟩ := List.mem_map.mp hl
    obtain ⟨c, ts, rfl, hf⟩ := h v hv
    exact sumD_int hf z hz
theorem smsB_of {many : Int} {vs : List PD} (h : smsB many (.tuple vs) = true) : vs.length ≤ 4 ∧ ∀ v ∈ vs, smB many v = true := by
  simp only [smsB, Bool.and_eq_true, Bool.not_eq_true', decide_eq_false_iff_not] at h
  refine ⟨?_, fun v hv => List.all_eq_true.mp h.2 v hv⟩
  have := h.1
  split at this <;> omega
abbrev lwords : List Str := ["leave", "back", "stop", "read", "set", "tell", "test", "", "go", "", "share", "", "call", "", "jump"]
theorem iv_leave (n : Nat) : IVok n ⟨.tuple [.str "leave"], "leave", false, 0, [], 0⟩ where
  hd := ⟨_, rfl⟩
  to := by simp [beq_lit]
  pl := fun _ S => by
    refine fnM_dat ?_ rfl
    simp [b_plain_bytes, kixE, strsOf, placeS, str_lit, beq_lit, eqP_str, eqP_int, in_s5, seqS, asgS, ifS, boolT, op2, retS, retN, dropS, varE, conE, blt, bltC, consA, nilA, tupT, subT, nmT, tsT, nxS, R.bind, R.bindS, opt, derefD, derefs, dats, datD, subV, callE, callK, pick, andT, orT, notT, truT, trueD, truP, andE, orE, notE, iteE, isiE, isiP, tupE, lstE, celE, chainE, negE, slcE, someO, noO, cutP, mtE, mnE, parS, seqI, srcD, rngI1, rngI2, rg1, rg2, lrgE, lrgC, trgE, forS, ix0, ix1, ix2, ix3, ix4, ixl0, ixl1, gtP, ltP, leP, geP, addP_int, addP_list, subP, absP, maxP, minP, intP, boolP, lenP, tupleP, listP, listC, sizeLine_eq]
  tl := fun h => by cases h
  lp := fun S => by
    refine fnM_dat ?_ rfl
    simp [b_law_parts, lixE, strsOf, placeS, str_lit, beq_lit, eqP_str, eqP_int, in_s5, seqS, asgS, ifS, boolT, op2, retS, retN, dropS, varE, conE, blt, bltC, consA, nilA, tupT, subT, nmT, tsT, nxS, R.bind, R.bindS, opt, derefD, derefs, dats, datD, subV, callE, callK, pick, andT, orT, notT, truT, trueD, truP, andE, orE, notE, iteE, isiE, isiP, tupE, lstE, celE, chainE, negE, slcE, someO, noO, cutP, mtE, mnE, parS, seqI, srcD, rngI1, rngI2, rg1, rg2, lrgE, lrgC, trgE, forS, ix0, ix1, ix2, ix3, ix4, ixl0, ixl1, gtP, ltP, leP, geP, addP_int, addP_list, subP, absP, maxP, minP, intP, boolP, lenP, tupleP, listP, listC, sizeLine_eq]
  i0 := by simp
  i6 := by simp
  ix := fun h => by cases h
  t := fun h => by cases h
  ln := by simp
  ai := by simp
theorem iv_back (n : Nat) : IVok n ⟨.tuple [.str "back"], "back", false, 1, [], 0⟩ where
  hd := ⟨_, rfl⟩
  to := by simp [beq_lit]
  pl := fun _ S => by
    refine fnM_dat ?_ rfl
    simp [b_plain_bytes, kixE, strsOf, placeS, str_lit, beq_lit, eqP_str, eqP_int, in_s5, seqS, asgS, ifS, boolT, op2, retS, retN, dropS, varE, conE, blt, bltC, consA, nilA, tupT, subT, nmT, tsT, nxS, R.bind, R.bindS, opt, derefD, derefs, dats, datD, subV, callE, callK, pick, andT, orT, notT, truT, trueD, truP, andE, orE, notE, iteE, isiE, isiP, tupE, lstE, celE, chainE, negE, slcE, someO, noO, cutP, mtE, mnE, parS, seqI, srcD, rngI1, rngI2, rg1, rg2, lrgE, lrgC, trgE, forS, ix0, ix1, ix2, ix3, ix4, ixl0, ixl1, gtP, ltP, leP, geP, addP_int, addP_list, subP, absP, maxP, minP, intP, boolP, lenP, tupleP, listP, listC, sizeLine_eq]
  tl := fun h => by cases h
  lp := fun S => by
    refine fnM_dat ?_ rfl
    simp [b_law_parts, lixE, strsOf, placeS, str_lit, beq_lit, eqP_str, eqP_int, in_s5, seqS, asgS, ifS, boolT, op2, retS, retN, dropS, varE, conE, blt, bltC, consA, nilA, tupT, subT, nmT, tsT, nxS, R.bind, R.bindS, opt, derefD, derefs, dats, datD, subV, callE, callK, pick, andT, orT, notT, truT, trueD, truP, andE, orE, notE, iteE, isiE, isiP, tupE, lstE, celE, chainE, negE, slcE, someO, noO, cutP, mtE, mnE, parS, seqI, srcD, rngI1, rngI2, rg1, rg2, lrgE, lrgC, trgE, forS, ix0, ix1, ix2, ix3, ix4, ixl0, ixl1, gtP, ltP, leP, geP, addP_int, addP_list, subP, absP, maxP, minP, intP, boolP, lenP, tupleP, listP, listC, sizeLine_eq]
  i0 := by simp
  i6 := by simp
  ix := fun h => by cases h
  t := fun h => by cases h
  ln := by simp
  ai := by simp
theorem iv_stop (n m : Nat) (hm : m < 1000) : IVok n ⟨.tuple [.str "stop", .int (m : Nat)], "stop", false, 2, cnt m, 0⟩ where
  hd := ⟨_, rfl⟩
  to := by simp [beq_lit]
  pl := fun _ S => by
    have c := count_bytes_ok m (by omega) S
    have l := cnt_len 1 m (by omega)
    have hz : 1 + (cnt m).length ≤ 16777216 := by omega
    have a : addP (.list [.int 2]) (.list (cnt m)) = some (.list (.int 2 :: cnt m)) := addP_list (by simpa using hz)
    refine (fnM_ret (S' := S ++ [cnt m]) (p := .list (.int 2 :: cnt m)) ?_).trans (by simp)
    simp [b_plain_bytes, kixE, c, a, get_last, strsOf, placeS, str_lit, beq_lit, eqP_str, eqP_int, in_s5, seqS, asgS, ifS, boolT, op2, retS, retN, dropS, varE, conE, blt, bltC, consA, nilA, tupT, subT, nmT, tsT, nxS, R.bind, R.bindS, opt, derefD, derefs, dats, datD, subV, callE, callK, pick, andT, orT, notT, truT, trueD, truP, andE, orE, notE, iteE, isiE, isiP, tupE, lstE, celE, chainE, negE, slcE, someO, noO, cutP, mtE, mnE, parS, seqI, srcD, rngI1, rngI2, rg1, rg2, lrgE, lrgC, trgE, forS, ix0, ix1, ix2, ix3, ix4, ixl0, ixl1, gtP, ltP, leP, geP, addP_int, addP_list, subP, absP, maxP, minP, intP, boolP, lenP, tupleP, listP, listC, sizeLine_eq]
  tl := fun h => by cases h
  lp := fun S => by
    have c := lcnt_ok S 1 m 8 (by omega) (by omega) (by omega)
    refine fnM_dat ?_ rfl
    simp [b_law_parts, lixE, c, strsOf, placeS, str_lit, beq_lit, eqP_str, eqP_int, in_s5, seqS, asgS, ifS, boolT, op2, retS, retN, dropS, varE, conE, blt, bltC, consA, nilA, tupT, subT, nmT, tsT, nxS, R.bind, R.bindS, opt, derefD, derefs, dats, datD, subV, callE, callK, pick, andT, orT, notT, truT, trueD, truP, andE, orE, notE, iteE, isiE, isiP, tupE, lstE, celE, chainE, negE, slcE, someO, noO, cutP, mtE, mnE, parS, seqI, srcD, rngI1, rngI2, rg1, rg2, lrgE, lrgC, trgE, forS, ix0, ix1, ix2, ix3, ix4, ixl0, ixl1, gtP, ltP, leP, geP, addP_int, addP_list, subP, absP, maxP, minP, intP, boolP, lenP, tupleP, listP, listC, sizeLine_eq]
  i0 := by simp
  i6 := by simp
  ix := fun h => by cases h
  t := fun h => by cases h
  ln := by have l := cnt_len 1 m (by omega); simp only []; omega
  ai := cnt_int m
theorem iv_read (n : Nat) (x : PD) (hx : x = .none ∨ ∃ i : Int, x = .int i) : IVok n ⟨.tuple [.str "read", x], "read", false, 3, [if isNone x = true then .int 255 else x], 0⟩ where
  hd := ⟨_, rfl⟩
  to := by simp [beq_lit]
  pl := fun _ S => by
    refine fnM_dat ?_ rfl
    rcases hx with rfl | ⟨i, rfl⟩ <;> simp [b_plain_bytes, kixE, non_is, isNone, strsOf, placeS, str_lit, beq_lit, eqP_str, eqP_int, in_s5, seqS, asgS, ifS, boolT, op2, retS, retN, dropS, varE, conE, blt, bltC, consA, nilA, tupT, subT, nmT, tsT, nxS, R.bind, R.bindS, opt, derefD, derefs, dats, datD, subV, callE, callK, pick, andT, orT, notT, truT, trueD, truP, andE, orE, notE, iteE, isiE, isiP, tupE, lstE, celE, chainE, negE, slcE, someO, noO, cutP, mtE, mnE, parS, seqI, srcD, rngI1, rngI2, rg1, rg2, lrgE, lrgC, trgE, forS, ix0, ix1, ix2, ix3, ix4, ixl0, ixl1, gtP, ltP, leP, geP, addP_int, addP_list, subP, absP, maxP, minP, intP, boolP, lenP, tupleP, listP, listC, sizeLine_eq]
  tl := fun h => by cases h
  lp := fun S => by
    refine fnM_dat ?_ rfl
    rcases hx with rfl | ⟨i, rfl⟩ <;> simp [b_law_parts, lixE, non_is, isNone, strsOf, placeS, str_lit, beq_lit, eqP_str, eqP_int, in_s5, seqS, asgS, ifS, boolT, op2, retS, retN, dropS, varE, conE, blt, bltC, consA, nilA, tupT, subT, nmT, tsT, nxS, R.bind, R.bindS, opt, derefD, derefs, dats, datD, subV, callE, callK, pick, andT, orT, notT, truT, trueD, truP, andE, orE, notE, iteE, isiE, isiP, tupE, lstE, celE, chainE, negE, slcE, someO, noO, cutP, mtE, mnE, parS, seqI, srcD, rngI1, rngI2, rg1, rg2, lrgE, lrgC, trgE, forS, ix0, ix1, ix2, ix3, ix4, ixl0, ixl1, gtP, ltP, leP, geP, addP_int, addP_list, subP, absP, maxP, minP, intP, boolP, lenP, tupleP, listP, listC, sizeLine_eq]
  i0 := by simp
  i6 := by simp
  ix := fun h => by cases h
  t := fun h => by cases h
  ln := by simp
  ai := fun z hz => by
    rw [List.mem_singleton] at hz
    rcases hx with rfl | ⟨i, rfl⟩
    · exact ⟨255, by simpa [isNone] using hz⟩
    · exact ⟨i, by simpa [isNone] using hz⟩
theorem iv_set (n : Nat) (s : Int) {c : Int} {ts : List PD} (hf : Sf c ts) : IVok n ⟨.tuple [.str "set", .int s, .tuple [.int c, .tuple ts]], "set", false, 4, .int s :: sumD (.tuple [.int c, .tuple ts]), 0⟩ where
  hd := ⟨_, rfl⟩
  to := by simp [beq_lit]
  pl := fun _ S => by
    have q := sum_bytes_ok hf S
    have l := sumD_len hf
    have a : addP (.list [.int 4, .int s]) (.list (sumD (.tuple [.int c, .tuple ts]))) = some (.list (.int 4 :: .int s :: sumD (.tuple [.int c, .tuple ts]))) := addP_list (by simp; omega)
    refine fnM_dat ?_ rfl
    simp [b_plain_bytes, kixE, q, a, strsOf, placeS, str_lit, beq_lit, eqP_str, eqP_int, in_s5, seqS, asgS, ifS, boolT, op2, retS, retN, dropS, varE, conE, blt, bltC, consA, nilA, tupT, subT, nmT, tsT, nxS, R.bind, R.bindS, opt, derefD, derefs, dats, datD, subV, callE, callK, pick, andT, orT, notT, truT, trueD, truP, andE, orE, notE, iteE, isiE, isiP, tupE, lstE, celE, chainE, negE, slcE, someO, noO, cutP, mtE, mnE, parS, seqI, srcD, rngI1, rngI2, rg1, rg2, lrgE, lrgC, trgE, forS, ix0, ix1, ix2, ix3, ix4, ixl0, ixl1, gtP, ltP, leP, geP, addP_int, addP_list, subP, absP, maxP, minP, intP, boolP, lenP, tupleP, listP, listC, sizeLine_eq]
  tl := fun h => by cases h
  lp := fun S => by
    have q := lsum_bytes_ok hf S
    have l := sumD_len hf
    have a : addP (.list [.int s]) (.list (sumD (.tuple [.int c, .tuple ts]))) = some (.list (.int s :: sumD (.tuple [.int c, .tuple ts]))) := addP_list (by simp; omega)
    refine fnM_dat ?_ rfl
    simp [b_law_parts, lixE, q, a, strsOf, placeS, str_lit, beq_lit, eqP_str, eqP_int, in_s5, seqS, asgS, ifS, boolT, op2, retS, retN, dropS, varE, conE, blt, bltC, consA, nilA, tupT, subT, nmT, tsT, nxS, R.bind, R.bindS, opt, derefD, derefs, dats, datD, subV, callE, callK, pick, andT, orT, notT, truT, trueD, truP, andE, orE, notE, iteE, isiE, isiP, tupE, lstE, celE, chainE, negE, slcE, someO, noO, cutP, mtE, mnE, parS, seqI, srcD, rngI1, rngI2, rg1, rg2, lrgE, lrgC, trgE, forS, ix0, ix1, ix2, ix3, ix4, ixl0, ixl1, gtP, ltP, leP, geP, addP_int, addP_list, subP, absP, maxP, minP, intP, boolP, lenP, tupleP, listP, listC, sizeLine_eq]
  i0 := by simp
  i6 := by simp
  ix := fun h => by cases h
  t := fun h => by cases h
  ln := by have l := sumD_len hf; simp only [List.length_cons]; omega
  ai := fun z hz => by
    rcases List.mem_cons.mp hz with q | q
    · exact ⟨_, q⟩
    · exact sumD_int hf z q
theorem iv_tell (n : Nat) {c : Int} {ts : List PD} (hf : Sf c ts) : IVok n ⟨.tuple [.str "tell", .tuple [.int c, .tuple ts]], "tell", false, 5, sumD (.tuple [.int c, .tuple ts]), 0⟩ where
  hd := ⟨_, rfl⟩
  to := by simp [beq_lit]
  pl := fun _ S => by
    have q := sum_bytes_ok hf S
    have l := sumD_len hf
    have a : addP (.list [.int 5]) (.list (sumD (.tuple [.int c, .tuple ts]))) = some (.list (.int 5 :: sumD (.tuple [.int c, .tuple ts]))) := addP_list (by simp; omega)
    refine fnM_dat ?_ rfl
    simp [b_plain_bytes, kixE, q, a, strsOf, placeS, str_lit, beq_lit, eqP_str, eqP_int, in_s5, seqS, asgS, ifS, boolT, op2, retS, retN, dropS, varE, conE, blt, bltC, consA, nilA, tupT, subT, nmT, tsT, nxS, R.bind, R.bindS, opt, derefD, derefs, dats, datD, subV, callE, callK, pick, andT, orT, notT, truT, trueD, truP, andE, orE, notE, iteE, isiE, isiP, tupE, lstE, celE, chainE, negE, slcE, someO, noO, cutP, mtE, mnE, parS, seqI, srcD, rngI1, rngI2, rg1, rg2, lrgE, lrgC, trgE, forS, ix0, ix1, ix2, ix3, ix4, ixl0, ixl1, gtP, ltP, leP, geP, addP_int, addP_list, subP, absP, maxP, minP, intP, boolP, lenP, tupleP, listP, listC, sizeLine_eq]
  tl := fun h => by cases h
  lp := fun S => by
    have q := lsum_bytes_ok hf S
    refine fnM_dat ?_ rfl
    simp [b_law_parts, lixE, q, strsOf, placeS, str_lit, beq_lit, eqP_str, eqP_int, in_s5, seqS, asgS, ifS, boolT, op2, retS, retN, dropS, varE, conE, blt, bltC, consA, nilA, tupT, subT, nmT, tsT, nxS, R.bind, R.bindS, opt, derefD, derefs, dats, datD, subV, callE, callK, pick, andT, orT, notT, truT, trueD, truP, andE, orE, notE, iteE, isiE, isiP, tupE, lstE, celE, chainE, negE, slcE, someO, noO, cutP, mtE, mnE, parS, seqI, srcD, rngI1, rngI2, rg1, rg2, lrgE, lrgC, trgE, forS, ix0, ix1, ix2, ix3, ix4, ixl0, ixl1, gtP, ltP, leP, geP, addP_int, addP_list, subP, absP, maxP, minP, intP, boolP, lenP, tupleP, listP, listC, sizeLine_eq]
  i0 := by simp
  i6 := by simp
  ix := fun h => by cases h
  t := fun h => by cases h
  ln := by have l := sumD_len hf; simp only []; omega
  ai := sumD_int hf
theorem iv_test (n : Nat) (t : Int) (t0 : 0 ≤ t) (t1 : t < n) : IVok n ⟨.tuple [.str "test", .int t], "test", true, 6, [], t⟩ where
  hd := ⟨_, rfl⟩
  to := by simp [beq_lit]
  pl := fun h => by cases h
  tl := fun _ S => by
    refine fnM_dat ?_ rfl
    simp [b_tail_bytes, eqP_int, seqS, asgS, ifS, boolT, op2, retS, retN, dropS, varE, conE, blt, bltC, consA, nilA, tupT, subT, nmT, tsT, nxS, R.bind, R.bindS, opt, derefD, derefs, dats, datD, subV, callE, callK, pick, andT, orT, notT, truT, trueD, truP, andE, orE, notE, iteE, isiE, isiP, tupE, lstE, celE, chainE, negE, slcE, someO, noO, cutP, mtE, mnE, parS, seqI, srcD, rngI1, rngI2, rg1, rg2, lrgE, lrgC, trgE, forS, ix0, ix1, ix2, ix3, ix4, ixl0, ixl1, gtP, ltP, leP, geP, addP_int, addP_list, subP, absP, maxP, minP, intP, boolP, lenP, tupleP, listP, listC, sizeLine_eq]
  lp := fun S => by
    refine fnM_dat ?_ rfl
    simp [b_law_parts, lixE, strsOf, placeS, str_lit, beq_lit, eqP_str, eqP_int, in_s5, seqS, asgS, ifS, boolT, op2, retS, retN, dropS, varE, conE, blt, bltC, consA, nilA, tupT, subT, nmT, tsT, nxS, R.bind, R.bindS, opt, derefD, derefs, dats, datD, subV, callE, callK, pick, andT, orT, notT, truT, trueD, truP, andE, orE, notE, iteE, isiE, isiP, tupE, lstE, celE, chainE, negE, slcE, someO, noO, cutP, mtE, mnE, parS, seqI, srcD, rngI1, rngI2, rg1, rg2, lrgE, lrgC, trgE, forS, ix0, ix1, ix2, ix3, ix4, ixl0, ixl1, gtP, ltP, leP, geP, addP_int, addP_list, subP, absP, maxP, minP, intP, boolP, lenP, tupleP, listP, listC, sizeLine_eq]
  i0 := by simp
  i6 := by simp
  ix := fun _ => ⟨0, by simp [placeS, str_lit], by simp⟩
  t := fun _ => ⟨ix1 _ _ _, t0, t1⟩
  ln := by simp
  ai := by simp
theorem iv_go (n : Nat) (t : Int) (t0 : 0 ≤ t) (t1 : t < n) : IVok n ⟨.tuple [.str "go", .int t], "go", true, 8, [], t⟩ where
  hd := ⟨_, rfl⟩
  to := by simp [beq_lit]
  pl := fun h => by cases h
  tl := fun _ S => by
    refine fnM_dat ?_ rfl
    simp [b_tail_bytes, eqP_int, seqS, asgS, ifS, boolT, op2, retS, retN, dropS, varE, conE, blt, bltC, consA, nilA, tupT, subT, nmT, tsT, nxS, R.bind, R.bindS, opt, derefD, derefs, dats, datD, subV, callE, callK, pick, andT, orT, notT, truT, trueD, truP, andE, orE, notE, iteE, isiE, isiP, tupE, lstE, celE, chainE, negE, slcE, someO, noO, cutP, mtE, mnE, parS, seqI, srcD, rngI1, rngI2, rg1, rg2, lrgE, lrgC, trgE, forS, ix0, ix1, ix2, ix3, ix4, ixl0, ixl1, gtP, ltP, leP, geP, addP_int, addP_list, subP, absP, maxP, minP, intP, boolP, lenP, tupleP, listP, listC, sizeLine_eq]
  lp := fun S => by
    refine fnM_dat ?_ rfl
    simp [b_law_parts, lixE, strsOf, placeS, str_lit, beq_lit, eqP_str, eqP_int, in_s5, seqS, asgS, ifS, boolT, op2, retS, retN, dropS, varE, conE, blt, bltC, consA, nilA, tupT, subT, nmT, tsT, nxS, R.bind, R.bindS, opt, derefD, derefs, dats, datD, subV, callE, callK, pick, andT, orT, notT, truT, trueD, truP, andE, orE, notE, iteE, isiE, isiP, tupE, lstE, celE, chainE, negE, slcE, someO, noO, cutP, mtE, mnE, parS, seqI, srcD, rngI1, rngI2, rg1, rg2, lrgE, lrgC, trgE, forS, ix0, ix1, ix2, ix3, ix4, ixl0, ixl1, gtP, ltP, leP, geP, addP_int, addP_list, subP, absP, maxP, minP, intP, boolP, lenP, tupleP, listP, listC, sizeLine_eq]
  i0 := by simp
  i6 := by simp
  ix := fun _ => ⟨1, by simp [placeS, str_lit], by simp⟩
  t := fun _ => ⟨ix1 _ _ _, t0, t1⟩
  ln := by simp
  ai := by simp
theorem iv_share (n : Nat) (t : Int) (t0 : 0 ≤ t) (t1 : t < n) : IVok n ⟨.tuple [.str "share", .int t], "share", true, 10, [], t⟩ where
  hd := ⟨_, rfl⟩
  to := by simp [beq_lit]
  pl := fun h => by cases h
  tl := fun _ S => by
    refine fnM_dat ?_ rfl
    simp [b_tail_bytes, eqP_int, seqS, asgS, ifS, boolT, op2, retS, retN, dropS, varE, conE, blt, bltC, consA, nilA, tupT, subT, nmT, tsT, nxS, R.bind, R.bindS, opt, derefD, derefs, dats, datD, subV, callE, callK, pick, andT, orT, notT, truT, trueD, truP, andE, orE, notE, iteE, isiE, isiP, tupE, lstE, celE, chainE, negE, slcE, someO, noO, cutP, mtE, mnE, parS, seqI, srcD, rngI1, rngI2, rg1, rg2, lrgE, lrgC, trgE, forS, ix0, ix1, ix2, ix3, ix4, ixl0, ixl1, gtP, ltP, leP, geP, addP_int, addP_list, subP, absP, maxP, minP, intP, boolP, lenP, tupleP, listP, listC, sizeLine_eq]
  lp := fun S => by
    refine fnM_dat ?_ rfl
    simp [b_law_parts, lixE, strsOf, placeS, str_lit, beq_lit, eqP_str, eqP_int, in_s5, seqS, asgS, ifS, boolT, op2, retS, retN, dropS, varE, conE, blt, bltC, consA, nilA, tupT, subT, nmT, tsT, nxS, R.bind, R.bindS, opt, derefD, derefs, dats, datD, subV, callE, callK, pick, andT, orT, notT, truT, trueD, truP, andE, orE, notE, iteE, isiE, isiP, tupE, lstE, celE, chainE, negE, slcE, someO, noO, cutP, mtE, mnE, parS, seqI, srcD, rngI1, rngI2, rg1, rg2, lrgE, lrgC, trgE, forS, ix0, ix1, ix2, ix3, ix4, ixl0, ixl1, gtP, ltP, leP, geP, addP_int, addP_list, subP, absP, maxP, minP, intP, boolP, lenP, tupleP, listP, listC, sizeLine_eq]
  i0 := by simp
  i6 := by simp
  ix := fun _ => ⟨2, by simp [placeS, str_lit], by simp⟩
  t := fun _ => ⟨ix1 _ _ _, t0, t1⟩
  ln := by simp
  ai := by simp
theorem iv_call (n : Nat) (t : Int) (t0 : 0 ≤ t) (t1 : t < n) {vs : List PD} (h : ∀ v ∈ vs, ∃ c ts, v = .tuple [.int c, .tuple ts] ∧ Sf c ts) (h4 : vs.length ≤ 4) : IVok n ⟨.tuple [.str "call", .int t, .tuple vs], "call", true, 12, sumsD vs, t⟩ where
  hd := ⟨_, rfl⟩
  to := by simp [beq_lit]
  pl := fun h => by cases h
  tl := fun _ S => by
    have q := sums_bytes_ok h h4 S
    refine fnM_dat ?_ rfl
    simp [b_tail_bytes, eqP_int, q, seqS, asgS, ifS, boolT, op2, retS, retN, dropS, varE, conE, blt, bltC, consA, nilA, tupT, subT, nmT, tsT, nxS, R.bind, R.bindS, opt, derefD, derefs, dats, datD, subV, callE, callK, pick, andT, orT, notT, truT, trueD, truP, andE, orE, notE, iteE, isiE, isiP, tupE, lstE, celE, chainE, negE, slcE, someO, noO, cutP, mtE, mnE, parS, seqI, srcD, rngI1, rngI2, rg1, rg2, lrgE, lrgC, trgE, forS, ix0, ix1, ix2, ix3, ix4, ixl0, ixl1, gtP, ltP, leP, geP, addP_int, addP_list, subP, absP, maxP, minP, intP, boolP, lenP, tupleP, listP, listC, sizeLine_eq]
  lp := fun S => by
    have c := lcnt_ok S 0 vs.length 8 (by omega) (by omega) (by omega)
    have l2 := cnt_small (n := vs.length) (by omega)
    obtain ⟨x', q⟩ := lpart_loop S (.dat (.tuple [.str "call", .int t, .tuple vs])) (.dat (.int 12)) ⟨vs, []⟩ (fun _ => ok_nil) vs (cnt vs.length) none h (by omega)
    have q2 : l_law_parts_1 [some (.dat (.tuple [.str "call", .int t, .tuple vs])), some (.dat (.int 12)), some (.dat (.list (cnt vs.length))), none] S = .ok (.nx [some (.dat (.tuple [.str "call", .int t, .tuple vs])), some (.dat (.int 12)), some (.dat (.list (sumsD vs))), x']) S := by
      simp only [l_law_parts_1, forS, seqI, op2, varE, conE, srcD, ix2, derefD, opt, R.bind, R.bindS, List.getElem?_cons_zero]
      exact q
    refine fnM_dat ?_ rfl
    simp [b_law_parts, lixE, c, q2, strsOf, placeS, str_lit, beq_lit, eqP_str, eqP_int, in_s5, seqS, asgS, ifS, boolT, op2, retS, retN, dropS, varE, conE, blt, bltC, consA, nilA, tupT, subT, nmT, tsT, nxS, R.bind, R.bindS, opt, derefD, derefs, dats, datD, subV, callE, callK, pick, andT, orT, notT, truT, trueD, truP, andE, orE, notE, iteE, isiE, isiP, tupE, lstE, celE, chainE, negE, slcE, someO, noO, cutP, mtE, mnE, parS, seqI, srcD, rngI1, rngI2, rg1, rg2, lrgE, lrgC, trgE, forS, ix0, ix1, ix2, ix3, ix4, ixl0, ixl1, gtP, ltP, leP, geP, addP_int, addP_list, subP, absP, maxP, minP, intP, boolP, lenP, tupleP, listP, listC, sizeLine_eq]
  i0 := by simp
  i6 := by simp
  ix := fun _ => ⟨3, by simp [placeS, str_lit], by simp⟩
  t := fun _ => ⟨ix1 _ _ _, t0, t1⟩
  ln := by
    have l2 := cnt_small (n := vs.length) (by omega)
    have := sums_flat h
    simp only [sumsD, List.length_append]; omega
  ai := sumsD_int h
theorem iv_jump (n : Nat) (t : Int) (t0 : 0 ≤ t) (t1 : t < n) {vs : List PD} (h : ∀ v ∈ vs, ∃ c ts, v = .tuple [.int c, .tuple ts] ∧ Sf c ts) (h4 : vs.length ≤ 4) : IVok n ⟨.tuple [.str "jump", .int t, .tuple vs], "jump", true, 14, sumsD vs, t⟩ where
  hd := ⟨_, rfl⟩
  to := by simp [beq_lit]
  pl := fun h => by cases h
  tl := fun _ S => by
    have q := sums_bytes_ok h h4 S
    refine fnM_dat ?_ rfl
    simp [b_tail_bytes, eqP_int, q, seqS, asgS, ifS, boolT, op2, retS, retN, dropS, varE, conE, blt, bltC, consA, nilA, tupT, subT, nmT, tsT, nxS, R.bind, R.bindS, opt, derefD, derefs, dats, datD, subV, callE, callK, pick, andT, orT, notT, truT, trueD, truP, andE, orE, notE, iteE, isiE, isiP, tupE, lstE, celE, chainE, negE, slcE, someO, noO, cutP, mtE, mnE, parS, seqI, srcD, rngI1, rngI2, rg1, rg2, lrgE, lrgC, trgE, forS, ix0, ix1, ix2, ix3, ix4, ixl0, ixl1, gtP, ltP, leP, geP, addP_int, addP_list, subP, absP, maxP, minP, intP, boolP, lenP, tupleP, listP, listC, sizeLine_eq]
  lp := fun S => by
    have c := lcnt_ok S 0 vs.length 8 (by omega) (by omega) (by omega)
    have l2 := cnt_small (n := vs.length) (by omega)
    obtain ⟨x', q⟩ := lpart_loop S (.dat (.tuple [.str "jump", .int t, .tuple vs])) (.dat (.int 14)) ⟨vs, []⟩ (fun _ => ok_nil) vs (cnt vs.length) none h (by omega)
    have q2 : l_law_parts_1 [some (.dat (.tuple [.str "jump", .int t, .tuple vs])), some (.dat (.int 14)), some (.dat (.list (cnt vs.length))), none] S = .ok (.nx [some (.dat (.tuple [.str "jump", .int t, .tuple vs])), some (.dat (.int 14)), some (.dat (.list (sumsD vs))), x']) S := by
      simp only [l_law_parts_1, forS, seqI, op2, varE, conE, srcD, ix2, derefD, opt, R.bind, R.bindS, List.getElem?_cons_zero]
      exact q
    refine fnM_dat ?_ rfl
    simp [b_law_parts, lixE, c, q2, strsOf, placeS, str_lit, beq_lit, eqP_str, eqP_int, in_s5, seqS, asgS, ifS, boolT, op2, retS, retN, dropS, varE, conE, blt, bltC, consA, nilA, tupT, subT, nmT, tsT, nxS, R.bind, R.bindS, opt, derefD, derefs, dats, datD, subV, callE, callK, pick, andT, orT, notT, truT, trueD, truP, andE, orE, notE, iteE, isiE, isiP, tupE, lstE, celE, chainE, negE, slcE, someO, noO, cutP, mtE, mnE, parS, seqI, srcD, rngI1, rngI2, rg1, rg2, lrgE, lrgC, trgE, forS, ix0, ix1, ix2, ix3, ix4, ixl0, ixl1, gtP, ltP, leP, geP, addP_int, addP_list, subP, absP, maxP, minP, intP, boolP, lenP, tupleP, listP, listC, sizeLine_eq]
  i0 := by simp
  i6 := by simp
  ix := fun _ => ⟨4, by simp [placeS, str_lit], by simp⟩
  t := fun _ => ⟨ix1 _ _ _, t0, t1⟩
  ln := by
    have l2 := cnt_small (n := vs.length) (by omega)
    have := sums_flat h
    simp only [sumsD, List.length_append]; omega
  ai := sumsD_int h
theorem rise_len : ∀ (xs : List Int) (lo m : Int), rise xs = true → (∀ x ∈ xs, lo ≤ x ∧ x < m) → lo ≤ m → (xs.length : Int) ≤ m - lo
  | [], lo, m, _, _, h => by simp; omega
  | [x], lo, m, _, h, _ => by have := h x (by simp); simp; omega
  | x :: y :: r, lo, m, h1, h2, _ => by
    simp only [rise, Bool.and_eq_true, decide_eq_true_eq] at h1
    have hx := h2 x (by simp)
    have ih := rise_len (y :: r) (x + 1) m h1.2 (fun z hz => by
      have hz2 := h2 z (List.mem_cons_of_mem _ hz)
      refine ⟨?_, hz2.2⟩
      have up : ∀ (l : List Int) (a : Int), rise (a :: l) = true → ∀ b ∈ a :: l, a ≤ b := by
        intro l
        induction l with
        | nil => intro a _ b hb; simp at hb; omega
        | cons c l ih =>
          intro a h b hb
          simp only [rise, Bool.and_eq_true, decide_eq_true_eq] at h
          rcases List.mem_cons.mp hb with q | q
          · omega
          · have := ih c h.2 b q; omega
      have := up r y h1.2 z hz
      omega) (by omega)
    simp only [List.length_cons] at ih ⊢
    omega
theorem sf_of2 {many : Int} {v : PD} (h1 : smB many v = true) (m0 : 0 ≤ many) (m8 : many ≤ 8) : ∃ c ts, v = .tuple [.int c, .tuple ts] ∧ Sf c ts := by
  unfold smB at h1
  split at h1
  · rename_i c ts
    simp only [amtB, Bool.and_eq_true, decide_eq_true_eq] at h1
    obtain ⟨⟨q1, q2⟩, q3, q4⟩ := h1
    have two : ∀ t ∈ ts, ∃ a b : Int, t = .tuple [.int a, .int b] ∧ (0 ≤ a ∧ a < many) ∧ -1000000000 ≤ b ∧ b ≤ 1000000000 := fun t ht => by
      have := List.all_eq_true.mp q3 t ht
      unfold tmB at this
      split at this
      · rename_i a b
        simp only [Bool.and_eq_true, decide_eq_true_eq] at this
        exact ⟨a, b, rfl, this.1.1, this.1.2⟩
      · cases this
    have hl := rise_len (ts.map fstI) 0 many q4 (fun x hx => by
      obtain ⟨t, ht, rfl⟩ := List.mem_map.mp hx
      obtain ⟨a, b, rfl, h, _⟩ := two t ht
      exact h) m0
    rw [List.length_map] at hl
    exact ⟨c, ts, rfl, by omega, by omega, by omega, fun t ht => let ⟨a, b, e, _, h⟩ := two t ht; ⟨a, b, e, h⟩⟩
  · cases h1
theorem bel_inv {m : Int} {a : PD} (h : belB m a = true) : ∃ i : Int, a = .int i ∧ 0 ≤ i ∧ i < m := by
  unfold belB at h
  split at h
  · simp only [Bool.and_eq_true, decide_eq_true_eq] at h; exact ⟨_, rfl, h.1, h.2⟩
  · cases h
/-- each instruction of a line can be seen so -/
theorem iv_of {many : Int} {n : Nat} {x : PD} (h : insB many n x = true) (m0 : 0 ≤ many) (m8 : many ≤ 8) : ∃ y : IV, y.v = x ∧ IVok n y := by
  unfold insB at h
  split at h
  · rename_i w r
    split at h
    · rename_i hw
      have : r = [] := by simpa using h
      subst this
      rcases hw with rfl | rfl
      · exact ⟨_, rfl, iv_leave n⟩
      · exact ⟨_, rfl, iv_back n⟩
    split at h
    · rename_i hw
      split at h
      · rename_i a b
        rw [Bool.and_eq_true] at h
        obtain ⟨i, rfl, i0, i1⟩ := bel_inv h.1
        cases b with
        | tuple vs =>
          obtain ⟨h4, hs⟩ := smsB_of h.2
          have hf : ∀ v ∈ vs, ∃ c ts, v = .tuple [.int c, .tuple ts] ∧ Sf c ts := fun v hv => sf_of2 (hs v hv) m0 m8
          rcases hw with rfl | rfl
          · exact ⟨_, rfl, iv_call n i i0 i1 hf h4⟩
          · exact ⟨_, rfl, iv_jump n i i0 i1 hf h4⟩
        | _ => simp [smsB] at h
      · cases h
    split at h
    · rename_i hw
      subst hw
      split at h
      · rename_i a b
        rw [Bool.and_eq_true] at h
        obtain ⟨i, rfl, i0, i1⟩ := bel_inv h.1
        obtain ⟨c, ts, rfl, hf⟩ := sf_of2 h.2 m0 m8
        exact ⟨_, rfl, iv_set n i hf⟩
      · cases h
    split at h
    · rename_i a
      split at h
      · rename_i hw
        subst hw
        obtain ⟨i, rfl, i0, i1⟩ := bel_inv h
        obtain ⟨k, rfl⟩ : ∃ k : Nat, i = k := ⟨i.toNat, by omega⟩
        exact ⟨_, rfl, iv_stop n k (by omega)⟩
      split at h
      · rename_i hw
        subst hw
        refine ⟨_, rfl, iv_read n a ?_⟩
        cases a with
        | none => exact .inl rfl
        | int i => exact .inr ⟨i, rfl⟩
        | _ => simp [isNone, belB] at h
      split at h
      · rename_i hw
        subst hw
        obtain ⟨c, ts, rfl, hf⟩ := sf_of2 h m0 m8
        exact ⟨_, rfl, iv_tell n hf⟩
      split at h
      · rename_i hw
        obtain ⟨i, rfl, i0, i1⟩ := bel_inv h
        rcases hw with rfl | rfl | rfl
        · exact ⟨_, rfl, iv_test n i i0 i1⟩
        · exact ⟨_, rfl, iv_go n i i0 i1⟩
        · exact ⟨_, rfl, iv_share n i i0 i1⟩
      · cases h
    · cases h
  · cases h
theorem ivs_of {many : Int} {n : Nat} (m0 : 0 ≤ many) (m8 : many ≤ 8) : ∀ {is : List PD}, (∀ x ∈ is, In many n x) → ∃ xs : List IV, xs.map (·.v) = is ∧ ∀ x ∈ xs, IVok n x
  | [], _ => ⟨[], rfl, fun _ h => by simp at h⟩
  | x :: is, h => by
    obtain ⟨y, hy, ok⟩ := iv_of (h x (by simp)).is m0 m8
    obtain ⟨ys, hys, oks⟩ := ivs_of m0 m8 fun x hx => h x (List.mem_cons_of_mem _ hx)
    refine ⟨y :: ys, by simp [hy, hys], fun z hz => ?_⟩
    rcases List.mem_cons.mp hz with q | q
    · rw [q]; exact ok
    · exact oks z q
end DL.k63

set_option Elab.async false
set_option linter.all false
set_option maxRecDepth 100000
set_option maxHeartbeats 4000000
namespace DL.k63
open PySem PySem.Spec PyProof.Rows L2 DL
/-! ### sizes and places -/
theorem in_ints (neg : Bool) (k : Int) (far : List Int) : inP neg (.int k) (.list (far.map PyData.int)) = some (.bool (if neg then !decide (k ∈ far) else decide (k ∈ far))) := by
  rw [inP_list]
  have h1 : memOk (.int k) (far.map PyData.int) = true := by
    simp only [memOk, List.all_eq_true]
    intro z hz
    obtain ⟨i, _, rfl⟩ := List.mem_map.mp hz
    rfl
  have h2 : memB (.int k) (far.map PyData.int) = decide (k ∈ far) := by
    induction far with
    | nil => rfl
    | cons a r ih =>
      have ih := ih (by
        simp only [memOk, List.all_eq_true]
        intro z hz
        obtain ⟨i, _, rfl⟩ := List.mem_map.mp hz
        rfl)
      simp only [memB, List.map_cons, List.any_cons] at ih ⊢
      rw [ih]
      have e : PyData.eqv (.int a) (.int k) = decide (k = a) := by
        show (a == k) = _
        rw [Bool.eq_iff_iff, beq_iff_eq, decide_eq_true_iff]; exact eq_comm
      rw [e]
      simp
  rw [if_pos h1, h2]
theorem ints_get {P : List Int} {i : Int} (h0 : 0 ≤ i) (h1 : i < P.length) : ixP (.list (P.map PyData.int)) (.int i) = some (.int (P.getD i.toNat 0)) := by
  have hl : i.toNat < P.length := by omega
  rw [ixatl h0 (by simpa using h1)]
  simp [List.getD_eq_getElem?_getD, hl]
theorem ixlastl (pre : List PD) (p : PD) : ixP (.list (pre ++ [p])) (.int (-1)) = some p := by
  simp only [ixP, atI, ixN, List.length_append, List.length_cons, List.length_nil]
  rw [if_neg (by omega), if_pos (by omega)]
  have e : (-1 + ((pre.length + (0 + 1) : Nat) : Int)).toNat = pre.length := by omega
  simp only [Option.bind, e]
  simp
def szI (far : List Int) (k : Nat) (x : IV) : Int := if x.b = true then (if (k : Int) ∈ far then 3 else 2) + x.rs.length else 1 + x.rs.length
def szL (far : List Int) : Nat → List IV → List Int
  | _, [] => []
  | k, x :: xs => szI far k x :: szL far (k + 1) xs
def plL : Int → List Int → List Int
  | p, [] => [p]
  | p, s :: ss => p :: plL (p + s) ss
theorem szL_len (far : List Int) : ∀ (k : Nat) (xs : List IV), (szL far k xs).length = xs.length
  | _, [] => rfl
  | k, x :: xs => by simp [szL, szL_len far (k + 1) xs]
theorem plL_len : ∀ (p : Int) (ss : List Int), (plL p ss).length = ss.length + 1
  | _, [] => rfl
  | p, s :: ss => by simp [plL, plL_len (p + s) ss]
theorem hd_ix {n : Nat} {x : IV} (h : IVok n x) : ixP x.v (.int 0) = some (.str x.w) := by
  obtain ⟨r, e⟩ := h.hd
  rw [e, ix0]
abbrev lineD (many : Int) (xs : List IV) : PD := .tuple [.str "line", .int many, .tuple (xs.map (·.v))]
theorem sizes_loop (n : Nat) (S : Store) (ln : PD) (far : List Int) (src : Src) (hs : ∀ S, src.ok S) : ∀ (xs : List IV) (k : Nat) (acc : List PD) (a b : Option D), (∀ x ∈ xs, IVok n x) → acc.length + xs.length ≤ 1000 →
    ∃ a' b', forF src (tupT [(nmT 3), (nmT 4)]) lb_sizes_of_0 (enumL k (xs.map (·.v))) [some (.dat ln), some (.dat (.list (far.map PyData.int))), some (.ref S.length), a, b] (S ++ [acc]) =
      .ok (.nx [some (.dat ln), some (.dat (.list (far.map PyData.int))), some (.ref S.length), a', b']) (S ++ [acc ++ (szL far k xs).map PyData.int]) := by
  intro xs
  induction xs with
  | nil => intro k acc a b _ _; exact ⟨a, b, by simp [enumL, szL, forF_nil (hs _)]⟩
  | cons x xs ih0 =>
    intro k acc a b h hz
    have hx := h x (by simp)
    simp only [List.length_cons] at hz
    obtain ⟨a', b', ih⟩ := ih0 (k + 1) (acc ++ [.int (szI far k x)]) (some (.dat (.int (k : Nat)))) (some (.dat x.v)) (fun y hy => h y (List.mem_cons_of_mem _ hy)) (by simp only [List.length_append, List.length_cons, List.length_nil]; omega)
    refine ⟨a', b', ?_⟩
    have h0 := hd_ix hx
    have hb := hx.to
    have hz2 : acc.length < 16777216 := by omega
    have body : lb_sizes_of_0 [some (.dat ln), some (.dat (.list (far.map PyData.int))), some (.ref S.length), some (.dat (.int (k : Nat))), some (.dat x.v)] (S ++ [acc]) = .ok (.nx [some (.dat ln), some (.dat (.list (far.map PyData.int))), some (.ref S.length), some (.dat (.int (k : Nat))), some (.dat x.v)]) (S ++ [acc ++ [.int (szI far k x)]]) := by
      cases hxb : x.b with
      | true =>
        have tl := hx.tl hxb (S ++ [acc])
        rw [hxb] at hb
        by_cases hk : (k : Int) ∈ far
        · simp [lb_sizes_of_0, h0, in_s5, hb, in_ints, hk, tl, szI, hxb, appP, hz2, get_last, set_last, -List.map_map, seqS, asgS, ifS, boolT, op2, retS, retN, dropS, varE, conE, blt, bltC, consA, nilA, tupT, subT, nmT, tsT, nxS, R.bind, R.bindS, opt, derefD, derefs, dats, datD, subV, callE, callK, pick, andT, orT, notT, truT, trueD, truP, andE, orE, notE, iteE, isiE, isiP, tupE, lstE, celE, chainE, negE, slcE, someO, noO, cutP, mtE, mnE, parS, seqI, srcD, rngI1, rngI2, rg1, rg2, lrgE, lrgC, trgE, forS, ix0, ix1, ix2, ix3, ix4, ixl0, ixl1, gtP, ltP, leP, geP, addP, subP, absP, maxP, minP, intP, boolP, lenP, tupleP, listP, listC, sizeLine_eq]
        · simp [lb_sizes_of_0, h0, in_s5, hb, in_ints, hk, tl, szI, hxb, appP, hz2, get_last, set_last, -List.map_map, seqS, asgS, ifS, boolT, op2, retS, retN, dropS, varE, conE, blt, bltC, consA, nilA, tupT, subT, nmT, tsT, nxS, R.bind, R.bindS, opt, derefD, derefs, dats, datD, subV, callE, callK, pick, andT, orT, notT, truT, trueD, truP, andE, orE, notE, iteE, isiE, isiP, tupE, lstE, celE, chainE, negE, slcE, someO, noO, cutP, mtE, mnE, parS, seqI, srcD, rngI1, rngI2, rg1, rg2, lrgE, lrgC, trgE, forS, ix0, ix1, ix2, ix3, ix4, ixl0, ixl1, gtP, ltP, leP, geP, addP, subP, absP, maxP, minP, intP, boolP, lenP, tupleP, listP, listC, sizeLine_eq]
      | false =>
        have pl := hx.pl hxb (S ++ [acc])
        rw [hxb] at hb
        have e : ((x.rs.length + 1 : Nat) : Int) = 1 + x.rs.length := by omega
        simp [lb_sizes_of_0, h0, in_s5, hb, pl, szI, hxb, appP, hz2, get_last, set_last, seqS, asgS, ifS, boolT, op2, retS, retN, dropS, varE, conE, blt, bltC, consA, nilA, tupT, subT, nmT, tsT, nxS, R.bind, R.bindS, opt, derefD, derefs, dats, datD, subV, callE, callK, pick, andT, orT, notT, truT, trueD, truP, andE, orE, notE, iteE, isiE, isiP, tupE, lstE, celE, chainE, negE, slcE, someO, noO, cutP, mtE, mnE, parS, seqI, srcD, rngI1, rngI2, rg1, rg2, lrgE, lrgC, trgE, forS, ix0, ix1, ix2, ix3, ix4, ixl0, ixl1, gtP, ltP, leP, geP, addP, subP, absP, maxP, minP, intP, boolP, lenP, tupleP, listP, listC, sizeLine_eq]
        omega
    rw [List.map_cons]
    unfold enumL
    refine (forF_step (hs _) (δ1 := [some (.dat ln), some (.dat (.list (far.map PyData.int))), some (.ref S.length), some (.dat (.int (k : Nat))), some (.dat x.v)]) (S1 := S ++ [acc]) rfl body).trans (ih.trans ?_)
    simp [szL]
theorem sizes_ok {n : Nat} (many : Int) (far : List Int) {xs : List IV} (h : ∀ x ∈ xs, IVok n x) (hl : xs.length ≤ 100) (S : Store) : F_sizes_of [.dat (lineD many xs), .dat (.list (far.map PyData.int))] S = .ok (.dat (.list ((szL far 0 xs).map PyData.int))) S := by
  obtain ⟨a', b', e⟩ := sizes_loop n S (lineD many xs) far ⟨enumL 0 (xs.map (·.v)), []⟩ (fun _ => ok_nil) xs 0 [] none none h (by simp; omega)
  have e2 : l_sizes_of_1 [some (.dat (lineD many xs)), some (.dat (.list (far.map PyData.int))), some (.ref S.length), none, none] (S ++ [[]]) = .ok (.nx [some (.dat (lineD many xs)), some (.dat (.list (far.map PyData.int))), some (.ref S.length), a', b']) (S ++ [(szL far 0 xs).map PyData.int]) := by
    simp only [l_sizes_of_1, forS, enumI, consA, nilA, op2, varE, conE, enumV, ix2, derefD, opt, R.bind, R.bindS, List.getElem?_cons_zero]
    exact e
  refine (fnM_cell (n := S.length) (es := (szL far 0 xs).map PyData.int) (S' := S ++ [(szL far 0 xs).map PyData.int]) ?_ (by omega) get_last).trans (by simp)
  simp only [b_sizes_of, List.map_cons, List.map_nil, List.replicate, List.cons_append, List.nil_append, seqS, asgS, celE, nilA, nmT, retS, varE, dats, opt, R.bind, R.bindS, List.length_nil, sizeLine_eq, Nat.zero_le, if_true, List.set, e2, List.getElem?_cons_zero, List.getElem?_cons_succ]
def plT : Int → List Int → List Int
  | _, [] => []
  | p, s :: ss => (p + s) :: plT (p + s) ss
theorem plL_eq : ∀ (p : Int) (ss : List Int), plL p ss = p :: plT p ss
  | _, [] => rfl
  | p, s :: ss => by rw [plL, plT, plL_eq (p + s) ss]
theorem places_loop (S : Store) (v : PD) (src : Src) (hs : ∀ S, src.ok S) : ∀ (ss : List Int) (acc : List PD) (p : Int) (a : Option D), ixP (.list acc) (.int (-1)) = some (.int p) → acc.length + ss.length ≤ 1000 →
    ∃ a', forF src (nmT 2) lb_places_by_0 (ss.map PyData.int) [some (.dat v), some (.ref S.length), a] (S ++ [acc]) = .ok (.nx [some (.dat v), some (.ref S.length), a']) (S ++ [acc ++ (plT p ss).map PyData.int]) := by
  intro ss
  induction ss with
  | nil => intro acc p a _ _; exact ⟨a, by simp [plT, forF_nil (hs _)]⟩
  | cons s ss ih0 =>
    intro acc p a hp hz
    simp only [List.length_cons] at hz
    obtain ⟨a', ih⟩ := ih0 (acc ++ [.int (p + s)]) (p + s) (some (.dat (.int s))) (ixlastl _ _) (by simp only [List.length_append, List.length_cons, List.length_nil]; omega)
    refine ⟨a', ?_⟩
    have hz2 : acc.length < 16777216 := by omega
    have body : lb_places_by_0 [some (.dat v), some (.ref S.length), some (.dat (.int s))] (S ++ [acc]) = .ok (.nx [some (.dat v), some (.ref S.length), some (.dat (.int s))]) (S ++ [acc ++ [.int (p + s)]]) := by
      simp only [lb_places_by_0, seqS, dropS, mtE, varE, consA, nilA, op2, conE, negE, addP_int, appP, nxS, dats, hp, derefD, opt, R.bind, R.bindS, List.getElem?_cons_zero, List.getElem?_cons_succ, Option.map, Option.bind, sizeLine_eq, hz2, if_true, get_last, set_last]
    rw [List.map_cons, forF_step (hs _) (δ1 := [some (.dat v), some (.ref S.length), some (.dat (.int s))]) (S1 := S ++ [acc]) rfl body, ih]
    simp [plT]
theorem places_ok (ss : List Int) (hl : ss.length ≤ 100) (S : Store) : F_places_by [.dat (.list (ss.map PyData.int))] S = .ok (.dat (.list ((plL 4 ss).map PyData.int))) S := by
  obtain ⟨a', e⟩ := places_loop S (.list (ss.map PyData.int)) ⟨ss.map PyData.int, []⟩ (fun _ => ok_nil) ss [.int 4] 4 none (ixlastl [] _) (by simp only [List.length_cons, List.length_nil]; omega)
  have e2 : l_places_by_1 [some (.dat (.list (ss.map PyData.int))), some (.ref S.length), none] (S ++ [[.int 4]]) = .ok (.nx [some (.dat (.list (ss.map PyData.int))), some (.ref S.length), a']) (S ++ [(plL 4 ss).map PyData.int]) := by
    rw [plL_eq]
    simp only [l_places_by_1, forS, seqI, varE, srcD, opt, R.bind, R.bindS, List.getElem?_cons_zero]
    exact e
  refine (fnM_cell (n := S.length) (es := (plL 4 ss).map PyData.int) (S' := S ++ [(plL 4 ss).map PyData.int]) ?_ (by omega) get_last).trans (by simp)
  simp only [b_places_by, List.map_cons, List.map_nil, List.replicate, List.cons_append, List.nil_append, seqS, asgS, celE, consA, conE, nilA, nmT, retS, varE, dats, opt, R.bind, R.bindS, List.length_cons, List.length_nil, sizeLine_eq, Nat.reduceLeDiff, if_true, List.set, e2, List.getElem?_cons_zero, List.getElem?_cons_succ, Option.map]
/-! ### what cannot reach -/
def byteI (P : List Int) (k : Nat) (x : IV) : Int := 128 + P.getD x.t.toNat 0 - P.getD (k + 1) 0
def farB (far P : List Int) (k : Nat) (x : IV) : Bool := x.b && !decide ((k : Int) ∈ far) && !(decide (0 ≤ byteI P k x) && decide (byteI P k x ≤ 255))
def badL (far P : List Int) : Nat → List IV → List Int
  | _, [] => []
  | k, x :: xs => (if farB far P k x = true then [(k : Int)] else []) ++ badL far P (k + 1) xs
theorem far_loop (n : Nat) (S : Store) (ln : PD) (far P : List Int) (hP : P.length = n + 1) (src : Src) (hs : ∀ S, src.ok S) : ∀ (xs : List IV) (k : Nat) (acc : List PD) (a b c : Option D), (∀ x ∈ xs, IVok n x) → k + xs.length ≤ n → acc.length + xs.length ≤ 1000 →
    ∃ a' b' c', forF src (tupT [(nmT 4), (nmT 5)]) lb_too_far_0 (enumL k (xs.map (·.v))) [some (.dat ln), some (.dat (.list (far.map PyData.int))), some (.dat (.list (P.map PyData.int))), some (.ref S.length), a, b, c] (S ++ [acc]) =
      .ok (.nx [some (.dat ln), some (.dat (.list (far.map PyData.int))), some (.dat (.list (P.map PyData.int))), some (.ref S.length), a', b', c']) (S ++ [acc ++ (badL far P k xs).map PyData.int]) := by
  intro xs
  induction xs with
  | nil => intro k acc a b c _ _ _; exact ⟨a, b, c, by simp [enumL, badL, forF_nil (hs _)]⟩
  | cons x xs ih0 =>
    intro k acc a b c h hk hz
    have hx := h x (by simp)
    simp only [List.length_cons] at hz hk
    have h0 := hd_ix hx
    have hb := hx.to
    have hz2 : acc.length < 16777216 := by omega
    have body : ∃ c', lb_too_far_0 [some (.dat ln), some (.dat (.list (far.map PyData.int))), some (.dat (.list (P.map PyData.int))), some (.ref S.length), some (.dat (.int (k : Nat))), some (.dat x.v), c] (S ++ [acc]) = .ok (.nx [some (.dat ln), some (.dat (.list (far.map PyData.int))), some (.dat (.list (P.map PyData.int))), some (.ref S.length), some (.dat (.int (k : Nat))), some (.dat x.v), c']) (S ++ [acc ++ (if farB far P k x = true then [(k : Int)] else []).map PyData.int]) := by
      cases hxb : x.b with
      | true =>
        rw [hxb] at hb
        obtain ⟨t1, t2, t3⟩ := hx.t hxb
        by_cases hkf : (k : Int) ∈ far
        · refine ⟨c, ?_⟩
          simp [lb_too_far_0, h0, in_s5, hb, in_ints, hkf, farB, seqS, asgS, ifS, boolT, op2, retS, retN, dropS, varE, conE, blt, bltC, consA, nilA, tupT, subT, nmT, tsT, nxS, R.bind, R.bindS, opt, derefD, derefs, dats, datD, subV, callE, callK, pick, andT, orT, notT, truT, trueD, truP, andE, orE, notE, iteE, isiE, isiP, tupE, lstE, celE, chainE, negE, slcE, someO, noO, cutP, mtE, mnE, parS, seqI, srcD, rngI1, rngI2, rg1, rg2, lrgE, lrgC, trgE, forS, ix0, ix1, ix2, ix3, ix4, ixl0, ixl1, gtP, ltP, leP, geP, addP, subP, absP, maxP, minP, intP, boolP, lenP, tupleP, listP, listC, sizeLine_eq]
        · have g1 := ints_get (P := P) t2 (by omega)
          have g2 := ints_get (P := P) (i := (k : Int) + 1) (by omega) (by omega)
          have e2 : ((k : Int) + 1).toNat = k + 1 := by omega
          rw [e2] at g2
          refine ⟨some (.dat (.int (byteI P k x))), ?_⟩
          have g3 : (128 : Int) + P.getD x.t.toNat 0 - P.getD (k + 1) 0 = byteI P k x := rfl
          by_cases c1 : 0 ≤ byteI P k x
          · by_cases c2 : byteI P k x ≤ 255
            · simp only [lb_too_far_0, seqS, ifS, andT, notT, boolT, chainE, op2, varE, conE, h0, in_s5, hb, in_ints, hkf, t1, g1, g2, g3, leP, addP_int, subP, asgS, nmT, nxS, derefD, opt, R.bind, R.bindS, List.getElem?_cons_zero, List.getElem?_cons_succ, List.set, decide_false, decide_true, Bool.not_false, Bool.not_true, if_true, if_false, c1, c2, Bool.false_eq_true, farB, hxb, Bool.and_true, Bool.and_self, List.map_nil, List.append_nil]
              simp [c1, c2]
            · simp only [lb_too_far_0, seqS, ifS, andT, notT, boolT, chainE, op2, varE, conE, h0, in_s5, hb, in_ints, hkf, t1, g1, g2, g3, leP, addP_int, subP, asgS, nmT, nxS, dropS, mtE, consA, nilA, dats, appP, derefD, opt, R.bind, R.bindS, List.getElem?_cons_zero, List.getElem?_cons_succ, List.set, decide_false, decide_true, Bool.not_false, Bool.not_true, if_true, if_false, c1, c2, Bool.false_eq_true, farB, hxb, Bool.and_true, Bool.and_self, Bool.and_false, Option.map, sizeLine_eq, hz2, get_last, set_last, List.map_cons, List.map_nil]
          · simp only [lb_too_far_0, seqS, ifS, andT, notT, boolT, chainE, op2, varE, conE, h0, in_s5, hb, in_ints, hkf, t1, g1, g2, g3, leP, addP_int, subP, asgS, nmT, nxS, dropS, mtE, consA, nilA, dats, appP, derefD, opt, R.bind, R.bindS, List.getElem?_cons_zero, List.getElem?_cons_succ, List.set, decide_false, decide_true, Bool.not_false, Bool.not_true, if_true, if_false, c1, Bool.false_eq_true, farB, hxb, Bool.and_true, Bool.and_self, Bool.false_and, Option.map, sizeLine_eq, hz2, get_last, set_last, List.map_cons, List.map_nil]
      | false =>
        rw [hxb] at hb
        refine ⟨c, ?_⟩
        simp [lb_too_far_0, h0, in_s5, hb, farB, hxb, seqS, asgS, ifS, boolT, op2, retS, retN, dropS, varE, conE, blt, bltC, consA, nilA, tupT, subT, nmT, tsT, nxS, R.bind, R.bindS, opt, derefD, derefs, dats, datD, subV, callE, callK, pick, andT, orT, notT, truT, trueD, truP, andE, orE, notE, iteE, isiE, isiP, tupE, lstE, celE, chainE, negE, slcE, someO, noO, cutP, mtE, mnE, parS, seqI, srcD, rngI1, rngI2, rg1, rg2, lrgE, lrgC, trgE, forS, ix0, ix1, ix2, ix3, ix4, ixl0, ixl1, gtP, ltP, leP, geP, addP, subP, absP, maxP, minP, intP, boolP, lenP, tupleP, listP, listC, sizeLine_eq]
    obtain ⟨c1, body⟩ := body
    obtain ⟨a', b', c', ih⟩ := ih0 (k + 1) (acc ++ (if farB far P k x = true then [(k : Int)] else []).map PyData.int) (some (.dat (.int (k : Nat)))) (some (.dat x.v)) c1 (fun y hy => h y (List.mem_cons_of_mem _ hy)) (by omega) (by simp only [List.length_append, List.length_map]; split <;> simp <;> omega)
    refine ⟨a', b', c', ?_⟩
    rw [List.map_cons]
    unfold enumL
    refine (forF_step (hs _) (δ1 := [some (.dat ln), some (.dat (.list (far.map PyData.int))), some (.dat (.list (P.map PyData.int))), some (.ref S.length), some (.dat (.int (k : Nat))), some (.dat x.v), c]) (S1 := S ++ [acc]) rfl body).trans (ih.trans ?_)
    simp [badL]
end DL.k63

set_option Elab.async false
set_option linter.all false
set_option maxRecDepth 100000
set_option maxHeartbeats 4000000
namespace DL.k63
open PySem PySem.Spec PyProof.Rows L2 DL
theorem too_far_ok {n : Nat} (many : Int) (far : List Int) {xs : List IV} (h : ∀ x ∈ xs, IVok n x) (hn : xs.length = n) (hl : n ≤ 100) (S : Store) : F_too_far [.dat (lineD many xs), .dat (.list (far.map PyData.int))] S = .ok (.dat (.list ((badL far (plL 4 (szL far 0 xs)) 0 xs).map PyData.int))) S := by
  have e1 := sizes_ok many far h (by omega) S
  have e2 := places_ok (szL far 0 xs) (by rw [szL_len]; omega) S
  have hP : (plL 4 (szL far 0 xs)).length = n + 1 := by rw [plL_len, szL_len, hn]
  generalize hPP : plL 4 (szL far 0 xs) = P at *
  obtain ⟨a', b', c', e⟩ := far_loop n S (lineD many xs) far P hP ⟨enumL 0 (xs.map (·.v)), []⟩ (fun _ => ok_nil) xs 0 [] none none none h (by omega) (by simp; omega)
  have e3 : l_too_far_1 [some (.dat (lineD many xs)), some (.dat (.list (far.map PyData.int))), some (.dat (.list (P.map PyData.int))), some (.ref S.length), none, none, none] (S ++ [[]]) = .ok (.nx [some (.dat (lineD many xs)), some (.dat (.list (far.map PyData.int))), some (.dat (.list (P.map PyData.int))), some (.ref S.length), a', b', c']) (S ++ [(badL far P 0 xs).map PyData.int]) := by
    simp only [l_too_far_1, forS, enumI, consA, nilA, op2, varE, conE, enumV, ix2, derefD, opt, R.bind, R.bindS, List.getElem?_cons_zero]
    exact e
  refine (fnM_cell (n := S.length) (es := (badL far P 0 xs).map PyData.int) (S' := S ++ [(badL far P 0 xs).map PyData.int]) ?_ (by omega) get_last).trans (by simp)
  simp only [b_too_far, List.map_cons, List.map_nil, List.replicate, List.cons_append, List.nil_append, seqS, asgS, callE, consA, celE, nilA, nmT, retS, varE, dats, opt, R.bind, R.bindS, List.length_cons, List.length_nil, e1, e2, sizeLine_eq, Nat.zero_le, if_true, List.set, e3, List.getElem?_cons_zero, List.getElem?_cons_succ]
/-! ### growing -/
/-- the places of a line, some of whose tos are long -/
def plx (xs : List IV) (far : List Int) : List Int := plL 4 (szL far 0 xs)
def bad (xs : List IV) (far : List Int) : List Int := badL far (plx xs far) 0 xs
def grow (xs : List IV) : Nat → List Int → List Int
  | 0, far => far
  | m + 1, far => if bad xs far = [] then far else grow xs m (sortI (far ++ bad xs far))
structure Fa (n : Nat) (far : List Int) : Prop where
  nd : far.Nodup
  lt : ∀ i ∈ far, 0 ≤ i ∧ i < n
theorem badL_mem (far P : List Int) : ∀ (k : Nat) (xs : List IV) (i : Int), i ∈ badL far P k xs → i ∉ far ∧ (k : Int) ≤ i ∧ i < k + xs.length
  | _, [], i, h => by simp [badL] at h
  | k, x :: xs, i, h => by
    simp only [badL, List.mem_append] at h
    rcases h with h | h
    · split at h
      · rename_i hf
        rw [List.mem_singleton] at h; subst h
        simp only [farB, Bool.and_eq_true, Bool.not_eq_true', decide_eq_false_iff_not] at hf
        exact ⟨hf.1.2, by omega, by simp; omega⟩
      · simp at h
    · have := badL_mem far P (k + 1) xs i h
      exact ⟨this.1, by omega, by simp only [List.length_cons]; omega⟩
theorem badL_nd (far P : List Int) : ∀ (k : Nat) (xs : List IV), (badL far P k xs).Nodup
  | _, [] => List.nodup_nil
  | k, x :: xs => by
    have ih := badL_nd far P (k + 1) xs
    simp only [badL]
    split
    · refine List.nodup_cons.mpr ⟨fun h => ?_, ih⟩
      have := badL_mem far P (k + 1) xs _ h
      omega
    · exact ih
theorem badL_len (far P : List Int) : ∀ (k : Nat) (xs : List IV), (badL far P k xs).length ≤ xs.length
  | _, [] => by simp [badL]
  | k, x :: xs => by
    have := badL_len far P (k + 1) xs
    simp only [badL, List.length_append, List.length_cons]
    split <;> simp <;> omega
theorem Fa.next {xs : List IV} {far : List Int} (h : Fa xs.length far) : Fa xs.length (sortI (far ++ bad xs far)) := by
  have p := sortI_perm (far ++ bad xs far)
  refine ⟨p.nodup_iff.mpr ?_, fun i hi => ?_⟩
  · rw [List.nodup_append]
    refine ⟨h.nd, badL_nd _ _ _ _, fun a ha b hb e => ?_⟩
    subst e
    exact (badL_mem _ _ 0 xs a hb).1 ha
  · rcases List.mem_append.mp (p.mem_iff.mp hi) with q | q
    · exact h.lt i q
    · have := badL_mem _ _ 0 xs i q
      exact ⟨by omega, by omega⟩
theorem pig : ∀ (n : Nat) (l : List Int), l.Nodup → (∀ i ∈ l, 0 ≤ i ∧ i < n) → l.length ≤ n
  | 0, [], _, _ => by simp
  | 0, a :: _, _, h => by have := h a (by simp); omega
  | n + 1, l, nd, h => by
    have h2 := pig n (l.erase (n : Int)) (nd.erase _) fun i hi => by
      have hm := (nd.mem_erase_iff).mp hi
      have := h i hm.2
      have := hm.1
      omega
    rw [List.length_erase] at h2
    split at h2 <;> omega
theorem Fa.len {n : Nat} {far : List Int} (h : Fa n far) : far.length ≤ n := pig n far h.nd h.lt
theorem sort_len (l : List Int) : (sortI l).length = l.length := (sortI_perm l).length_eq
theorem sorted_ints (l : List Int) : sortedP [.list (l.map PyData.int)] = some (.list ((sortI l).map PyData.int)) := by
  simp only [sortedP, intsOf_map, Option.map]
theorem bad_len (xs : List IV) (far : List Int) : (bad xs far).length ≤ xs.length := badL_len _ _ _ _
theorem cat_ints {a b : List Int} (h : a.length + b.length ≤ 1000) : addP (.list (a.map PyData.int)) (.list (b.map PyData.int)) = some (.list ((a ++ b).map PyData.int)) := by
  rw [addP_list (by simp; omega), List.map_append]
theorem grow_done (xs : List IV) : ∀ (m : Nat) (far : List Int), Fa xs.length far → xs.length + 1 ≤ m + far.length → bad xs (grow xs m far) = [] ∧ Fa xs.length (grow xs m far)
  | 0, far, h, hm => by have := h.len; omega
  | m + 1, far, h, hm => by
    rw [grow]
    split
    · rename_i e; exact ⟨e, h⟩
    · rename_i e
      refine grow_done xs m _ h.next ?_
      rw [sort_len, List.length_append]
      have : 0 < (bad xs far).length := List.length_pos_iff.mpr e
      omega
theorem wloop_ok {n : Nat} (many : Int) {xs : List IV} (h : ∀ x ∈ xs, IVok n x) (hn : xs.length = n) (hl : n ≤ 100) (S : Store) : ∀ (m : Nat) (far : List Int), Fa n far → n + 1 ≤ m + far.length →
    l_longs_by_1 [some (.dat (lineD many xs)), some (.dat (.list (far.map PyData.int))), some (.dat (.list ((bad xs far).map PyData.int)))] S = .ok (.nx [some (.dat (lineD many xs)), some (.dat (.list ((grow xs m far).map PyData.int))), some (.dat (.list []))]) S
  | 0, far, hf, hm => by have := hf.len; omega
  | m + 1, far, hf, hm => by
    subst hn
    have ne : neP (.list ((bad xs far).map PyData.int)) (.list []) = some (.bool (!(bad xs far).isEmpty)) := by
      have := eqP_nil ((bad xs far).map PyData.int)
      unfold eqP at this
      unfold neP
      split at this
      · rename_i q
        rw [if_pos q]
        simp only [Option.some.injEq, PyData.bool.injEq] at this
        rw [this]; simp
      · cases this
    unfold l_longs_by_1
    rw [whileS_step, grow]
    by_cases hb : bad xs far = []
    · rw [if_pos hb, hb]
      rw [hb] at ne
      simp only [boolT, op2, varE, lstE, nilA, dats, derefD, opt, R.bind, R.bindS, List.getElem?_cons_zero, List.getElem?_cons_succ, List.length_nil, sizeLine_eq, Nat.zero_le, if_true, ne, List.isEmpty_nil, Bool.not_true, Bool.false_eq_true, if_false, List.map_nil]
      rw [List.map_nil] at ne
      simp [ne]
    · rw [if_neg hb]
      have he : (bad xs far).isEmpty = false := by simpa using hb
      rw [he] at ne
      have l1 := hf.len
      have l2 := bad_len xs far
      have a1 := cat_ints (a := far) (b := bad xs far) (by omega)
      have e2 := too_far_ok many (sortI (far ++ bad xs far)) h rfl hl S
      have e3 : badL (sortI (far ++ bad xs far)) (plL 4 (szL (sortI (far ++ bad xs far)) 0 xs)) 0 xs = bad xs (sortI (far ++ bad xs far)) := rfl
      rw [e3] at e2
      have ih := wloop_ok many h rfl hl S m (sortI (far ++ bad xs far)) hf.next (by rw [sort_len, List.length_append]; have : 0 < (bad xs far).length := List.length_pos_iff.mpr hb; omega)
      have body : lb_longs_by_0 [some (.dat (lineD many xs)), some (.dat (.list (far.map PyData.int))), some (.dat (.list ((bad xs far).map PyData.int)))] S = .ok (.nx [some (.dat (lineD many xs)), some (.dat (.list ((sortI (far ++ bad xs far)).map PyData.int))), some (.dat (.list ((bad xs (sortI (far ++ bad xs far))).map PyData.int)))]) S := by
        simp only [lb_longs_by_0, seqS, asgS, nmT, blt, callE, consA, nilA, op2, varE, a1, sorted_ints, nxS, derefs, derefD, opt, R.bind, R.bindS, List.getElem?_cons_zero, List.getElem?_cons_succ, Option.map, Option.bind, List.set, List.length_cons, List.length_nil, if_true, e2]
      unfold l_longs_by_1 at ih
      simp only [boolT, op2, varE, lstE, nilA, dats, derefD, opt, R.bind, R.bindS, List.getElem?_cons_zero, List.getElem?_cons_succ, List.length_nil, sizeLine_eq, Nat.zero_le, if_true, ne, Bool.not_false, body]
      exact ih
def longsI (xs : List IV) : List Int := grow xs (xs.length + 1) []
theorem fa_nil (n : Nat) : Fa n [] := ⟨List.nodup_nil, fun _ h => by simp at h⟩
theorem longs_by_ok {n : Nat} (many : Int) {xs : List IV} (h : ∀ x ∈ xs, IVok n x) (hn : xs.length = n) (hl : n ≤ 100) (S : Store) : F_longs_by [.dat (lineD many xs)] S = .ok (.dat (.tuple [.list ((longsI xs).map PyData.int), .list ((plx xs (longsI xs)).map PyData.int)])) S := by
  subst hn
  have e1 := too_far_ok many [] h rfl hl S
  have e3 : badL [] (plL 4 (szL [] 0 xs)) 0 xs = bad xs [] := rfl
  rw [e3, List.map_nil] at e1
  have e2 := wloop_ok many h rfl hl S (xs.length + 1) [] (fa_nil _) (by simp)
  rw [List.map_nil] at e2
  have e4 := sizes_ok many (longsI xs) h (by omega) S
  have e5 := places_ok (szL (longsI xs) 0 xs) (by rw [szL_len]; omega) S
  refine fnM_dat ?_ rfl
  simp only [b_longs_by, List.map_cons, List.map_nil, List.replicate, List.cons_append, List.nil_append, seqS, parS, callE, consA, lstE, nilA, varE, dats, opt, R.bind, R.bindS, List.length_cons, List.length_nil, sizeLine_eq, Nat.zero_le, Nat.reduceLeDiff, if_true, List.set, List.getElem?_cons_zero, List.getElem?_cons_succ, e1, e2, retS, tupE, Option.map]
  have e6 : grow xs (xs.length + 1) [] = longsI xs := rfl
  simp [e6, e4, e5, plx, dats, opt, R.bind, R.bindS]
end DL.k63

set_option Elab.async false
set_option linter.all false
set_option maxRecDepth 100000
set_option maxHeartbeats 4000000
namespace DL.k63
open PySem PySem.Spec PyProof.Rows L2 DL
/-! ### the law's own packing -/
theorem fnM_rtT {nl : Nat} {keep : Bool} {b : MS} {ds rs : List D} {S S' : Store} {ps : List PD} (h : b (ds.map some ++ List.replicate nl none) S = .ok (.rtT rs) S') (he : endA S.length S' rs = some ps) : fnM nl keep b ds S = .ok (.dat (.tuple ps)) (S'.take S.length) := by
  unfold fnM
  rw [h]
  simp only [endT, he]
def ptD (x : IV) : PD := .tuple [.int x.i, .list x.rs]
theorem parts_ok {n : Nat} (many : Int) (far : D) {xs : List IV} (h : ∀ x ∈ xs, IVok n x) (hl : xs.length ≤ 100) (S : Store) (y2 y3 y4 y5 y6 y7 y8 y9 y10 y11 : Option D) : c_law_packed_0 [some (.dat (lineD many xs)), some far, y2, y3, y4, y5, y6, y7, y8, y9, y10, y11] S = .ok (.dat (.list (xs.map ptD))) S := by
  have e : (xs.map (·.v)).map (fun p => match (xs.find? fun y => PyData.eqv y.v p) with | some y => ptD y | none => p) = (xs.map (·.v)).map (fun p => match (xs.find? fun y => PyData.eqv y.v p) with | some y => ptD y | none => p) := rfl
  clear e
  have q : ∀ (l : List IV) (acc : List PD) (src : Src), src.cs = [] → (∀ x ∈ l, IVok n x) → acc.length + l.length ≤ 1000 → lcLoop src (nmT 8) yesT (callE 1 F_law_parts (consA (varE 8) nilA)) [some (.dat (lineD many xs)), some far, y2, y3, y4, y5, y6, y7, none, y9, y10, y11] (l.map (·.v)) acc S = .ok (acc ++ l.map ptD) S := by
    intro l
    induction l with
    | nil =>
      intro acc src hs _ _
      simp only [List.map_nil, lcLoop]
      rw [if_pos (by intro q hq; rw [hs] at hq; cases hq)]
      simp
    | cons x l ih =>
      intro acc src hs hx hz
      simp only [List.length_cons] at hz
      have lp := (hx x (by simp)).lp S
      have ih := ih (acc ++ [ptD x]) src hs (fun y hy => hx y (List.mem_cons_of_mem _ hy)) (by simp only [List.length_append, List.length_cons, List.length_nil]; omega)
      simp only [List.map_cons, lcLoop]
      rw [if_pos (by intro q hq; rw [hs] at hq; cases hq)]
      simp only [okB, yesT, nmT, List.set, callE, consA, nilA, varE, lp, datD, opt, R.bind, List.getElem?_cons_zero, List.getElem?_cons_succ, List.length_cons, List.length_nil, if_true]
      rw [if_pos (by rw [sizeLine_eq]; omega)]
      have e2 : PyData.tuple [.int x.i, .list x.rs] = ptD x := rfl
      rw [e2, ih]
      simp
  have := q xs [] ⟨xs.map (·.v), []⟩ rfl h (by simp; omega)
  simp only [c_law_packed_0, lcE, lcA, seqI, op2, varE, conE, ix2, srcD, wipeD, derefD, opt, R.bind, List.getElem?_cons_zero, List.set]
  rw [this]
  simp
theorem lpl_loop (n : Nat) (S : Store) (ln pt : PD) (far : List Int) (src : Src) (hs : ∀ S, src.ok S) (y5 y6 y7 y8 y11 : Option D) : ∀ (xs : List IV) (k : Nat) (acc : List PD) (p : Int) (a b c : Option D), ixP (.list acc) (.int (-1)) = some (.int p) → (∀ x ∈ xs, IVok n x) → acc.length + xs.length ≤ 1000 →
    ∃ a' b' c', forF src (tupT [(nmT 4), (tupT [(nmT 9), (nmT 10)])]) lb_law_packed_1 (enumL k (xs.map ptD)) [some (.dat ln), some (.dat (.list (far.map PyData.int))), some (.dat pt), some (.ref S.length), a, y5, y6, y7, y8, b, c, y11] (S ++ [acc]) =
      .ok (.nx [some (.dat ln), some (.dat (.list (far.map PyData.int))), some (.dat pt), some (.ref S.length), a', y5, y6, y7, y8, b', c', y11]) (S ++ [acc ++ (plT p (szL far k xs)).map PyData.int]) := by
  intro xs
  induction xs with
  | nil => intro k acc p a b c _ _ _; exact ⟨a, b, c, by simp [enumL, szL, plT, forF_nil (hs _)]⟩
  | cons x xs ih0 =>
    intro k acc p a b c hp h hz
    have hx := h x (by simp)
    simp only [List.length_cons] at hz
    obtain ⟨a', b', c', ih⟩ := ih0 (k + 1) (acc ++ [.int (p + szI far k x)]) (p + szI far k x) (some (.dat (.int (k : Nat)))) (some (.dat (.int x.i))) (some (.dat (.list x.rs))) (ixlastl _ _) (fun y hy => h y (List.mem_cons_of_mem _ hy)) (by simp only [List.length_append, List.length_cons, List.length_nil]; omega)
    refine ⟨a', b', c', ?_⟩
    have hz2 : acc.length < 16777216 := by omega
    have body : lb_law_packed_1 [some (.dat ln), some (.dat (.list (far.map PyData.int))), some (.dat pt), some (.ref S.length), some (.dat (.int (k : Nat))), y5, y6, y7, y8, some (.dat (.int x.i)), some (.dat (.list x.rs)), y11] (S ++ [acc]) = .ok (.nx [some (.dat ln), some (.dat (.list (far.map PyData.int))), some (.dat pt), some (.ref S.length), some (.dat (.int (k : Nat))), y5, y6, y7, y8, some (.dat (.int x.i)), some (.dat (.list x.rs)), y11]) (S ++ [acc ++ [.int (p + szI far k x)]]) := by
      cases hxb : x.b with
      | true =>
        have h6 : ¬ x.i < 6 := fun q => by have := hx.i6.mp q; rw [hxb] at this; cases this
        by_cases hk : (k : Int) ∈ far
        · have e : p + 1 + (x.rs.length : Int) + 2 = p + szI far k x := by simp only [szI, hxb, hk, if_true]; omega
          simp only [lb_law_packed_1, seqS, dropS, mtE, varE, consA, nilA, op2, conE, negE, blt, lenP, iteE, boolT, ltP, in_ints, addP_int, appP, nxS, dats, hp, derefs, derefD, opt, R.bind, R.bindS, List.getElem?_cons_zero, List.getElem?_cons_succ, Option.map, Option.bind, sizeLine_eq, hz2, if_true, get_last, set_last, h6, hk, decide_true, decide_false, Bool.false_eq_true, if_false, e]
        · have e : p + 1 + (x.rs.length : Int) + 1 = p + szI far k x := by simp only [szI, hxb, hk, if_true, if_false]; omega
          simp only [lb_law_packed_1, seqS, dropS, mtE, varE, consA, nilA, op2, conE, negE, blt, lenP, iteE, boolT, ltP, in_ints, addP_int, appP, nxS, dats, hp, derefs, derefD, opt, R.bind, R.bindS, List.getElem?_cons_zero, List.getElem?_cons_succ, Option.map, Option.bind, sizeLine_eq, hz2, if_true, get_last, set_last, h6, hk, decide_true, decide_false, Bool.false_eq_true, if_false, e]
      | false =>
        have h6 : x.i < 6 := hx.i6.mpr hxb
        have e : p + 1 + (x.rs.length : Int) + 0 = p + szI far k x := by simp only [szI, hxb, Bool.false_eq_true, if_false]; omega
        simp only [lb_law_packed_1, seqS, dropS, mtE, varE, consA, nilA, op2, conE, negE, blt, lenP, iteE, boolT, ltP, addP_int, appP, nxS, dats, hp, derefs, derefD, opt, R.bind, R.bindS, List.getElem?_cons_zero, List.getElem?_cons_succ, Option.map, Option.bind, sizeLine_eq, hz2, if_true, get_last, set_last, h6, decide_true, e]
    rw [List.map_cons]
    unfold enumL
    refine (forF_step (hs _) (δ1 := [some (.dat ln), some (.dat (.list (far.map PyData.int))), some (.dat pt), some (.ref S.length), some (.dat (.int (k : Nat))), y5, y6, y7, y8, some (.dat (.int x.i)), some (.dat (.list x.rs)), y11]) (S1 := S ++ [acc]) rfl body).trans (ih.trans ?_)
    simp [szL, plT]
/-- the bytes of one instruction -/
def bysI (far P : List Int) (k : Nat) (x : IV) : List PD :=
  if x.b = true then (if (k : Int) ∈ far then [.int (x.i + 1), .int (P.getD x.t.toNat 0 % 256), .int (P.getD x.t.toNat 0 / 256)] else [.int x.i, .int (byteI P k x)]) ++ x.rs
  else .int x.i :: x.rs
def bysL (far P : List Int) : Nat → List IV → List PD
  | _, [] => []
  | k, x :: xs => bysI far P k x ++ bysL far P (k + 1) xs
theorem bysI_len {n : Nat} (far P : List Int) (k : Nat) {x : IV} (h : IVok n x) : (bysI far P k x).length ≤ 233 := by
  have := h.ln
  unfold bysI
  split
  · split <;> simp <;> omega
  · simp; omega
theorem lby_loop (n : Nat) (S : Store) (many : Int) (ys : List IV) (pt : PD) (far P : List Int) (hP : P.length = n + 1) (src : Src) (hs : ∀ S, src.ok S) (y8 : Option D) : ∀ (xs : List IV) (k : Nat) (fo : List PD) (bd : List Int) (a t b c e : Option D), (∀ x ∈ xs, IVok n x) → (∀ i x, xs[i]? = some x → ys[k + i]? = some x) → k + xs.length ≤ n → fo.length + 233 * xs.length ≤ 100000 → bd.length + xs.length ≤ 1000 →
    ∃ a' t' b' c' e', forF src (tupT [(nmT 4), (tupT [(nmT 9), (nmT 10)])]) lb_law_packed_3 (enumL k (xs.map ptD)) [some (.dat (lineD many ys)), some (.dat (.list (far.map PyData.int))), some (.dat pt), some (.ref S.length), a, some (.dat (.list fo)), some (.dat (.list (bd.map PyData.int))), t, y8, b, c, e] (S ++ [P.map PyData.int]) =
      .ok (.nx [some (.dat (lineD many ys)), some (.dat (.list (far.map PyData.int))), some (.dat pt), some (.ref S.length), a', some (.dat (.list (fo ++ bysL far P k xs))), some (.dat (.list ((bd ++ badL far P k xs).map PyData.int))), t', y8, b', c', e']) (S ++ [P.map PyData.int]) := by
  intro xs
  induction xs with
  | nil => intro k fo bd a t b c e _ _ _ _ _; exact ⟨a, t, b, c, e, by simp [enumL, bysL, badL, forF_nil (hs _)]⟩
  | cons x xs ih0 =>
    intro k fo bd a t b c e h hy hk hz hz3
    have hx := h x (by simp)
    simp only [List.length_cons] at hz hk hz3
    have hl := bysI_len far P k hx
    have hrs := hx.ln
    have body : ∃ t' e', lb_law_packed_3 [some (.dat (lineD many ys)), some (.dat (.list (far.map PyData.int))), some (.dat pt), some (.ref S.length), some (.dat (.int (k : Nat))), some (.dat (.list fo)), some (.dat (.list (bd.map PyData.int))), t, y8, some (.dat (.int x.i)), some (.dat (.list x.rs)), e] (S ++ [P.map PyData.int]) =
        .ok (.nx [some (.dat (lineD many ys)), some (.dat (.list (far.map PyData.int))), some (.dat pt), some (.ref S.length), some (.dat (.int (k : Nat))), some (.dat (.list (fo ++ bysI far P k x))), some (.dat (.list ((bd ++ if farB far P k x = true then [(k : Int)] else []).map PyData.int))), t', y8, some (.dat (.int x.i)), some (.dat (.list x.rs)), e']) (S ++ [P.map PyData.int]) := by
      cases hxb : x.b with
      | false =>
        have h6 : x.i < 6 := hx.i6.mpr hxb
        have h5 : ¬ 5 < x.i := by omega
        have a1 : addP (.list fo) (.list [.int x.i]) = some (.list (fo ++ [.int x.i])) := addP_list (by simp; omega)
        have a2 : addP (.list (fo ++ [.int x.i])) (.list x.rs) = some (.list (fo ++ [.int x.i] ++ x.rs)) := addP_list (by simp only [List.length_append, List.length_cons, List.length_nil]; omega)
        refine ⟨some (.dat (.int 0)), e, ?_⟩
        simp only [lb_law_packed_3, seqS, asgS, nmT, ifS, iteE, boolT, op2, gtP, ltP, varE, conE, lstE, consA, nilA, dats, nxS, a1, a2, derefD, opt, R.bind, R.bindS, List.getElem?_cons_zero, List.getElem?_cons_succ, Option.map, List.set, h5, h6, decide_false, decide_true, Bool.false_eq_true, if_false, if_true, List.length_cons, List.length_nil, sizeLine_eq, Nat.reduceLeDiff, farB, hxb, Bool.false_and, List.append_nil, bysI]
        simp [a1, a2]
      | true =>
        have h6 : ¬ x.i < 6 := fun q => by have := hx.i6.mp q; rw [hxb] at this; cases this
        have h5 : 5 < x.i := by omega
        obtain ⟨t1, t2, t3⟩ := hx.t hxb
        have g1 := ints_get (P := P) t2 (by omega)
        have g0 : ixP (.tuple (ys.map (·.v))) (.int (k : Nat)) = some x.v := by
          have := hy 0 x rfl
          have hlt : k < ys.length := (List.getElem?_eq_some_iff.mp this).1
          rw [ixat (by omega) (by simpa using hlt)]
          have e2 : ys[k] = x := by
            rw [Nat.add_zero, List.getElem?_eq_getElem hlt] at this; exact Option.some.inj this
          simp [e2]
        by_cases hkf : (k : Int) ∈ far
        · have m1 : modP (.int (P.getD x.t.toNat 0)) (.int 256) = some (.int (P.getD x.t.toNat 0 % 256)) := modP_pos (by omega)
          have m2 : fdivP (.int (P.getD x.t.toNat 0)) (.int 256) = some (.int (P.getD x.t.toNat 0 / 256)) := fdivP_pos (by omega) (by decide)
          have a1 : addP (.list fo) (.list [.int (x.i + 1), .int (P.getD x.t.toNat 0 % 256), .int (P.getD x.t.toNat 0 / 256)]) = some (.list (fo ++ [.int (x.i + 1), .int (P.getD x.t.toNat 0 % 256), .int (P.getD x.t.toNat 0 / 256)])) := addP_list (by simp; omega)
          have a2 : addP (.list (fo ++ [.int (x.i + 1), .int (P.getD x.t.toNat 0 % 256), .int (P.getD x.t.toNat 0 / 256)])) (.list x.rs) = some (.list (fo ++ [.int (x.i + 1), .int (P.getD x.t.toNat 0 % 256), .int (P.getD x.t.toNat 0 / 256)] ++ x.rs)) := addP_list (by simp only [List.length_append, List.length_cons, List.length_nil]; omega)
          refine ⟨some (.dat (.int (P.getD x.t.toNat 0))), e, ?_⟩
          have hfb : farB far P k x = false := by simp [farB, hkf]
          have hby : bysI far P k x = [.int (x.i + 1), .int (P.getD x.t.toNat 0 % 256), .int (P.getD x.t.toNat 0 / 256)] ++ x.rs := by simp [bysI, hxb, hkf]
          rw [hfb, hby]
          simp only [lb_law_packed_3, seqS, asgS, nmT, ifS, iteE, boolT, op2, gtP, ltP, varE, conE, lstE, consA, nilA, dats, nxS, blt, intP, ix2, g0, g1, t1, m1, m2, a1, a2, in_ints, addP_int, derefs, derefD, opt, R.bind, R.bindS, get_last, List.getElem?_cons_zero, List.getElem?_cons_succ, Option.map, Option.bind, List.set, h5, h6, hkf, decide_false, decide_true, Bool.false_eq_true, if_false, if_true, List.length_cons, List.length_nil, sizeLine_eq, Nat.reduceLeDiff, List.append_nil]
          simp [a1, a2]
        · have g2 := ints_get (P := P) (i := (k : Int) + 1) (by omega) (by omega)
          have e2 : ((k : Int) + 1).toNat = k + 1 := by omega
          rw [e2] at g2
          have g3 : (128 : Int) + P.getD x.t.toNat 0 - P.getD (k + 1) 0 = byteI P k x := rfl
          have a1 : addP (.list fo) (.list [.int x.i, .int (byteI P k x)]) = some (.list (fo ++ [.int x.i, .int (byteI P k x)])) := addP_list (by simp; omega)
          have a2 : addP (.list (fo ++ [.int x.i, .int (byteI P k x)])) (.list x.rs) = some (.list (fo ++ [.int x.i, .int (byteI P k x)] ++ x.rs)) := addP_list (by simp only [List.length_append, List.length_cons, List.length_nil]; omega)
          have a3 : addP (.list (bd.map PyData.int)) (.list [.int (k : Nat)]) = some (.list (bd.map PyData.int ++ [.int (k : Nat)])) := addP_list (by simp; omega)
          have a4 : addP (.list (bd.map PyData.int)) (.list []) = some (.list (bd.map PyData.int)) := by rw [addP_list (by simp; omega), List.append_nil]
          refine ⟨some (.dat (.int (P.getD x.t.toNat 0))), some (.dat (.int (byteI P k x))), ?_⟩
          have hby : bysI far P k x = [.int x.i, .int (byteI P k x)] ++ x.rs := by simp [bysI, hxb, hkf]
          rw [hby]
          by_cases c1 : byteI P k x < 0
          · have hfb : farB far P k x = true := by
              have : ¬ 0 ≤ byteI P k x := by omega
              simp [farB, hxb, hkf, this]
            rw [hfb]
            simp only [lb_law_packed_3, seqS, asgS, nmT, ifS, iteE, boolT, orT, op2, gtP, ltP, varE, conE, lstE, consA, nilA, dats, nxS, ix2, g0, g1, g2, g3, t1, a1, a2, a3, in_ints, addP_int, subP, derefs, derefD, opt, R.bind, R.bindS, get_last, List.getElem?_cons_zero, List.getElem?_cons_succ, Option.map, Option.bind, List.set, h5, h6, hkf, c1, decide_false, decide_true, Bool.false_eq_true, if_false, if_true, List.length_cons, List.length_nil, sizeLine_eq, Nat.reduceLeDiff]
            simp [a1, a2, a3]
          · by_cases c2 : byteI P k x > 255
            · have hfb : farB far P k x = true := by
                have : ¬ byteI P k x ≤ 255 := by omega
                simp [farB, hxb, hkf, this]
              rw [hfb]
              simp only [lb_law_packed_3, seqS, asgS, nmT, ifS, iteE, boolT, orT, op2, gtP, ltP, varE, conE, lstE, consA, nilA, dats, nxS, ix2, g0, g1, g2, g3, t1, a1, a2, a3, in_ints, addP_int, subP, derefs, derefD, opt, R.bind, R.bindS, get_last, List.getElem?_cons_zero, List.getElem?_cons_succ, Option.map, Option.bind, List.set, h5, h6, hkf, c1, c2, decide_false, decide_true, Bool.false_eq_true, if_false, if_true, List.length_cons, List.length_nil, sizeLine_eq, Nat.reduceLeDiff]
              simp [a1, a2, a3]
            · have hfb : farB far P k x = false := by
                have q1 : 0 ≤ byteI P k x := by omega
                have q2 : byteI P k x ≤ 255 := by omega
                simp [farB, hxb, hkf, q1, q2]
              rw [hfb]
              simp only [lb_law_packed_3, seqS, asgS, nmT, ifS, iteE, boolT, orT, op2, gtP, ltP, varE, conE, lstE, consA, nilA, dats, nxS, ix2, g0, g1, g2, g3, t1, a1, a2, a4, in_ints, addP_int, subP, derefs, derefD, opt, R.bind, R.bindS, get_last, List.getElem?_cons_zero, List.getElem?_cons_succ, Option.map, Option.bind, List.set, h5, h6, hkf, c1, c2, decide_false, decide_true, Bool.false_eq_true, if_false, if_true, List.length_cons, List.length_nil, sizeLine_eq, Nat.reduceLeDiff, Nat.zero_le]
              simp [a1, a2, a4]
    obtain ⟨t2, e2, body⟩ := body
    obtain ⟨a', t', b', c', e', ih⟩ := ih0 (k + 1) (fo ++ bysI far P k x) (bd ++ if farB far P k x = true then [(k : Int)] else []) (some (.dat (.int (k : Nat)))) t2 (some (.dat (.int x.i))) (some (.dat (.list x.rs))) e2 (fun y hy => h y (List.mem_cons_of_mem _ hy)) (fun i z hz => by have := hy (i + 1) z (by simpa using hz); rw [← this]; congr 1; omega) (by omega) (by simp only [List.length_append]; omega) (by simp only [List.length_append, List.length_map]; split <;> simp <;> omega)
    refine ⟨a', t', b', c', e', ?_⟩
    rw [List.map_cons]
    unfold enumL
    refine (forF_step (hs _) (δ1 := [some (.dat (lineD many ys)), some (.dat (.list (far.map PyData.int))), some (.dat pt), some (.ref S.length), some (.dat (.int (k : Nat))), some (.dat (.list fo)), some (.dat (.list (bd.map PyData.int))), t, y8, some (.dat (.int x.i)), some (.dat (.list x.rs)), e]) (S1 := S ++ [P.map PyData.int]) rfl body).trans (ih.trans ?_)
    simp [bysL, badL]
end DL.k63

set_option Elab.async false
set_option linter.all false
set_option maxRecDepth 100000
set_option maxHeartbeats 4000000
namespace DL.k63
open PySem PySem.Spec PyProof.Rows L2 DL
theorem packed_ok {n : Nat} (many : Int) (far : List Int) {xs : List IV} (h : ∀ x ∈ xs, IVok n x) (hn : xs.length = n) (hl : n ≤ 100) (S : Store) : F_law_packed [.dat (lineD many xs), .dat (.list (far.map PyData.int))] S =
    .ok (.dat (.tuple [.list ([.int 75, .int 83, .int 1, .int many] ++ bysL far (plx xs far) 0 xs), .list ((plx xs far).map PyData.int), .list ((bad xs far).map PyData.int)])) S := by
  have e1 := parts_ok many (.dat (.list (far.map PyData.int))) h (by omega) S none none none none none none none none none none
  have hP : (plx xs far).length = n + 1 := by unfold plx; rw [plL_len, szL_len, hn]
  obtain ⟨a1, b1, c1, e2⟩ := lpl_loop n S (lineD many xs) (.list (xs.map ptD)) far ⟨enumL 0 (xs.map ptD), []⟩ (fun _ => ok_nil) none none none none none xs 0 [.int 4] 4 none none none (ixlastl [] _) h (by simp only [List.length_cons, List.length_nil]; omega)
  have e3 : [PyData.int 4] ++ (plT 4 (szL far 0 xs)).map PyData.int = (plx xs far).map PyData.int := by unfold plx; rw [plL_eq]; rfl
  rw [e3] at e2
  obtain ⟨a2, t2, b2, c2, d2, e4⟩ := lby_loop n S many xs (.list (xs.map ptD)) far (plx xs far) hP ⟨enumL 0 (xs.map ptD), []⟩ (fun _ => ok_nil) none xs 0 [.int 75, .int 83, .int 1, .int many] [] a1 none b1 c1 none h (fun i x hx => by rw [Nat.zero_add]; exact hx) (by omega) (by simp only [List.length_cons, List.length_nil]; omega) (by simp only [List.length_nil]; omega)
  have l2 : l_law_packed_2 [some (.dat (lineD many xs)), some (.dat (.list (far.map PyData.int))), some (.dat (.list (xs.map ptD))), some (.ref S.length), none, none, none, none, none, none, none, none] (S ++ [[.int 4]]) = .ok (.nx [some (.dat (lineD many xs)), some (.dat (.list (far.map PyData.int))), some (.dat (.list (xs.map ptD))), some (.ref S.length), a1, none, none, none, none, b1, c1, none]) (S ++ [(plx xs far).map PyData.int]) := by
    simp only [l_law_packed_2, forS, enumI, consA, nilA, varE, enumV, csD, derefD, opt, R.bind, R.bindS, List.getElem?_cons_zero, List.getElem?_cons_succ]
    exact e2
  have l4 : l_law_packed_4 [some (.dat (lineD many xs)), some (.dat (.list (far.map PyData.int))), some (.dat (.list (xs.map ptD))), some (.ref S.length), a1, some (.dat (.list [.int 75, .int 83, .int 1, .int many])), some (.dat (.list [])), none, none, b1, c1, none] (S ++ [(plx xs far).map PyData.int]) = .ok (.nx [some (.dat (lineD many xs)), some (.dat (.list (far.map PyData.int))), some (.dat (.list (xs.map ptD))), some (.ref S.length), a2, some (.dat (.list ([.int 75, .int 83, .int 1, .int many] ++ bysL far (plx xs far) 0 xs))), some (.dat (.list ((bad xs far).map PyData.int))), t2, none, b2, c2, d2]) (S ++ [(plx xs far).map PyData.int]) := by
    simp only [l_law_packed_4, forS, enumI, consA, nilA, varE, enumV, csD, derefD, opt, R.bind, R.bindS, List.getElem?_cons_zero, List.getElem?_cons_succ]
    exact e4
  generalize (plx xs far).map PyData.int = PP at *
  generalize bysL far (plx xs far) 0 xs = BB at *
  generalize (bad xs far).map PyData.int = DD at *
  refine (fnM_rtT (ps := [.list ([.int 75, .int 83, .int 1, .int many] ++ BB), .list PP, .list DD]) (rs := [.dat (.list ([.int 75, .int 83, .int 1, .int many] ++ BB)), .ref S.length, .dat (.list DD)]) (S' := S ++ [PP]) ?_ ?_).trans (by simp)
  · simp only [b_law_packed, List.map_cons, List.map_nil, List.replicate, List.cons_append, List.nil_append, seqS, asgS, nmT, e1, celE, consA, nilA, conE, lstE, varE, op2, ix1, dats, derefD, parS, opt, R.bind, R.bindS, List.length_cons, List.length_nil, sizeLine_eq, Nat.reduceLeDiff, Nat.zero_le, if_true, List.set, l2, List.getElem?_cons_zero, List.getElem?_cons_succ, Option.map, l4, retT]
  · simp [endA]
theorem seqS_ret {f g : MS} {δ : DEnv} {S S' : Store} {d : D} (h : f δ S = .ok (.ret d) S') : seqS f g δ S = .ok (.ret d) S' := by simp only [seqS, h]
theorem seqS_nx {f g : MS} {δ δ' : DEnv} {S S' : Store} (h : f δ S = .ok (.nx δ') S') : seqS f g δ S = g δ' S' := by simp only [seqS, h]
theorem eq_nil_ints (l : List Int) : eqP (.list (l.map PyData.int)) (.list []) = some (.bool l.isEmpty) := by
  rw [eqP_nil]; simp
theorem grown_loop {n : Nat} (many : Int) {xs : List IV} (h : ∀ x ∈ xs, IVok n x) (hn : xs.length = n) (hl : n ≤ 100) (S : Store) (src : Src) (hs : ∀ S, src.ok S) : ∀ (ps : List PD) (far : List Int) (a b : Option D), Fa n far →
    forF src (nmT 2) lb_law_grown_0 ps [some (.dat (lineD many xs)), some (.dat (.list (far.map PyData.int))), a, b] S = .ok (.ret (.dat (.list ((grow xs ps.length far).map PyData.int)))) S ∨
    ∃ a' b', forF src (nmT 2) lb_law_grown_0 ps [some (.dat (lineD many xs)), some (.dat (.list (far.map PyData.int))), a, b] S = .ok (.nx [some (.dat (lineD many xs)), some (.dat (.list ((grow xs ps.length far).map PyData.int))), a', b']) S := by
  intro ps
  induction ps with
  | nil => intro far a b _; exact .inr ⟨a, b, by rw [forF_nil (hs _)]; rfl⟩
  | cons p ps ih =>
    intro far a b hf
    have e1 := packed_ok many far h hn hl S
    have ne := eq_nil_ints (bad xs far)
    by_cases hb : bad xs far = []
    · left
      have body : lb_law_grown_0 [some (.dat (lineD many xs)), some (.dat (.list (far.map PyData.int))), some (.dat p), b] S = .ok (.ret (.dat (.list (far.map PyData.int)))) S := by
        rw [hb] at ne e1
        simp only [lb_law_grown_0, seqS, asgS, nmT, op2, callE, consA, nilA, varE, conE, e1, ix2, ifS, boolT, lstE, dats, ne, retS, List.isEmpty_nil, derefD, opt, R.bind, R.bindS, List.set, List.getElem?_cons_zero, List.getElem?_cons_succ, List.length_cons, List.length_nil, sizeLine_eq, Nat.zero_le, if_true]
      rw [forF_ret (hs _) (δ1 := [some (.dat (lineD many xs)), some (.dat (.list (far.map PyData.int))), some (.dat p), b]) (S1 := S) rfl body]
      simp only [List.length_cons, grow, hb, if_true]
    · have he : (bad xs far).isEmpty = false := by simpa using hb
      rw [he] at ne
      subst hn
      have l1 := hf.len
      have l2 := bad_len xs far
      have a1 := cat_ints (a := far) (b := bad xs far) (by omega)
      have body : lb_law_grown_0 [some (.dat (lineD many xs)), some (.dat (.list (far.map PyData.int))), some (.dat p), b] S = .ok (.nx [some (.dat (lineD many xs)), some (.dat (.list ((sortI (far ++ bad xs far)).map PyData.int))), some (.dat p), some (.dat (.list ((bad xs far).map PyData.int)))]) S := by
        simp only [lb_law_grown_0, seqS, asgS, nmT, op2, callE, consA, nilA, varE, conE, e1, ix2, ifS, boolT, lstE, dats, ne, retS, nxS, blt, a1, sorted_ints, derefs, derefD, opt, R.bind, R.bindS, List.set, List.getElem?_cons_zero, List.getElem?_cons_succ, Option.map, Option.bind, List.length_cons, List.length_nil, sizeLine_eq, Nat.zero_le, if_true, Bool.false_eq_true, if_false]
      rw [forF_step (hs _) (δ1 := [some (.dat (lineD many xs)), some (.dat (.list (far.map PyData.int))), some (.dat p), b]) (S1 := S) rfl body]
      have e2 : grow xs (p :: ps).length far = grow xs ps.length (sortI (far ++ bad xs far)) := by simp only [List.length_cons, grow, hb, if_false]
      rw [e2]
      exact ih _ _ _ hf.next
theorem grown_ok {n : Nat} (many : Int) {xs : List IV} (h : ∀ x ∈ xs, IVok n x) (hn : xs.length = n) (hl : n ≤ 100) (S : Store) : F_law_grown [.dat (lineD many xs), .dat (.list [])] S = .ok (.dat (.list ((longsI xs).map PyData.int))) S := by
  have hr := rng_nat (fe := op2 addP (blt lenP (consA (op2 ixP (varE 0) (conE (.int 2))) nilA)) (conE (.int 1))) (δ := [some (.dat (lineD many xs)), some (.dat (.list [])), none, none]) (S := S) (S1 := S) (m := (xs.length : Int) + 1) (by
    simp only [op2, blt, lenP, consA, nilA, varE, conE, ix2, addP_int, derefs, derefD, opt, R.bind, List.getElem?_cons_zero, Option.map, Option.bind, List.length_map]) (by omega) (by omega)
  rw [show ((xs.length : Int) + 1).toNat = xs.length + 1 by omega] at hr
  have hf : Fa n [] := fa_nil n
  have q := grown_loop many h hn hl S ⟨rangeL 0 (xs.length + 1), []⟩ (fun _ => ok_nil) (rangeL 0 (xs.length + 1)) [] none none hf
  rw [rangeL_len, List.map_nil] at q
  have e6 : grow xs (xs.length + 1) [] = longsI xs := rfl
  rw [e6] at q
  refine fnM_dat ?_ rfl
  rcases q with q | ⟨a', b', q⟩
  · have l1 : l_law_grown_1 [some (.dat (lineD many xs)), some (.dat (.list [])), none, none] S = .ok (.ret (.dat (.list ((longsI xs).map PyData.int)))) S := by
      unfold l_law_grown_1 forS
      rw [hr]
      exact q
    exact seqS_ret l1
  · have l1 : l_law_grown_1 [some (.dat (lineD many xs)), some (.dat (.list [])), none, none] S = .ok (.nx [some (.dat (lineD many xs)), some (.dat (.list ((longsI xs).map PyData.int))), a', b']) S := by
      unfold l_law_grown_1 forS
      rw [hr]
      exact q
    exact (seqS_nx l1).trans rfl
end DL.k63

set_option Elab.async false
set_option linter.all false
set_option maxRecDepth 100000
set_option maxHeartbeats 4000000
namespace DL.k63
open PySem PySem.Spec PyProof.Rows L2 DL
/-! ### the program's bytes -/
theorem forF_ct {src : Src} {tgt : D → DEnv → M DEnv} {body : MS} {p : PD} {ps : List PD} {δ δ1 δ2 : DEnv} {S S1 S2 : Store} (hok : src.ok S) (h1 : tgt (.dat p) δ S = .ok δ1 S1) (h2 : body δ1 S1 = .ok (.ct δ2) S2) : forF src tgt body (p :: ps) δ S = forF src tgt body ps δ2 S2 := by
  rw [forF, if_pos hok, h1]
  simp only [h2]
theorem so_to : strsOf [PyData.str "test", PyData.str "go", PyData.str "share", PyData.str "call", PyData.str "jump"] = some [Str.ofString "test", Str.ofString "go", Str.ofString "share", Str.ofString "call", Str.ofString "jump"] := rfl
theorem made_loop {n : Nat} (S : Store) (many : Int) (ln : PD) (far P : List Int) (hP : P.length = n + 1) (src : Src) (hs : ∀ S, src.ok S) : ∀ (xs : List IV) (k : Nat) (acc : List PD) (a b c d : Option D), (∀ x ∈ xs, IVok n x) → k + xs.length ≤ n → acc.length + 233 * xs.length ≤ 100000 →
    ∃ a' b' c' d', forF src (tupT [(nmT 4), (nmT 5)]) lb_made_by_0 (enumL k (xs.map (·.v))) [some (.dat ln), some (.ref S.length), some (.dat (.list (far.map PyData.int))), some (.dat (.list (P.map PyData.int))), a, b, c, d] (S ++ [acc]) =
      .ok (.nx [some (.dat ln), some (.ref S.length), some (.dat (.list (far.map PyData.int))), some (.dat (.list (P.map PyData.int))), a', b', c', d']) (S ++ [acc ++ bysL far P k xs]) := by
  intro xs
  induction xs with
  | nil => intro k acc a b c d _ _ _; exact ⟨a, b, c, d, by simp [enumL, bysL, forF_nil (hs _)]⟩
  | cons x xs ih0 =>
    intro k acc a b c d h hk hz
    have hx := h x (by simp)
    simp only [List.length_cons] at hz hk
    have hl := bysI_len far P k hx
    have hrs := hx.ln
    have h0 := hd_ix hx
    have hb := hx.to
    cases hxb : x.b with
    | false =>
      rw [hxb] at hb
      obtain ⟨a', b', c', d', ih⟩ := ih0 (k + 1) (acc ++ bysI far P k x) (some (.dat (.int (k : Nat)))) (some (.dat x.v)) c d (fun y hy => h y (List.mem_cons_of_mem _ hy)) (by omega) (by simp only [List.length_append]; omega)
      refine ⟨a', b', c', d', ?_⟩
      have pl := hx.pl hxb (S ++ [acc])
      have hz2 : acc.length + (x.rs.length + 1) ≤ 16777216 := by omega
      have hby : bysI far P k x = .int x.i :: x.rs := by simp [bysI, hxb]
      have ni : inP true (.str x.w) (.tuple [.str "test", .str "go", .str "share", .str "call", .str "jump"]) = some (.bool true) := by
        have q := in_s5 x.w "test" "go" "share" "call" "jump"
        rw [hb, inP_tup] at q
        rw [inP_tup]
        split at q
        · rename_i q2
          simp only [Bool.false_eq_true, if_false, Option.some.injEq, PyData.bool.injEq] at q
          rw [if_pos q2, q]; rfl
        · cases q
      have body : lb_made_by_0 [some (.dat ln), some (.ref S.length), some (.dat (.list (far.map PyData.int))), some (.dat (.list (P.map PyData.int))), some (.dat (.int (k : Nat))), some (.dat x.v), c, d] (S ++ [acc]) = .ok (.ct [some (.dat ln), some (.ref S.length), some (.dat (.list (far.map PyData.int))), some (.dat (.list (P.map PyData.int))), some (.dat (.int (k : Nat))), some (.dat x.v), c, d]) (S ++ [acc ++ bysI far P k x]) := by
        rw [hby]
        simp only [lb_made_by_0, seqS, ifS, boolT, op2, varE, conE, h0, ni, dropS, mtE, callE, consA, nilA, pl, dats, extP, ctS, nxS, derefD, opt, R.bind, R.bindS, List.getElem?_cons_zero, List.getElem?_cons_succ, Option.map, List.length_cons, List.length_nil, sizeLine_eq, hz2, if_true, get_last, set_last]
      rw [List.map_cons]
      unfold enumL
      rw [forF_ct (hs _) (δ1 := [some (.dat ln), some (.ref S.length), some (.dat (.list (far.map PyData.int))), some (.dat (.list (P.map PyData.int))), some (.dat (.int (k : Nat))), some (.dat x.v), c, d]) (S1 := S ++ [acc]) rfl body, ih]
      simp [bysL]
    | true =>
      rw [hxb] at hb
      obtain ⟨t1, t2, t3⟩ := hx.t hxb
      obtain ⟨j, j1, j2⟩ := hx.ix hxb
      have g1 := ints_get (P := P) t2 (by omega)
      have tl := fun S => hx.tl hxb S
      have ni : inP true (.str x.w) (.tuple [.str "test", .str "go", .str "share", .str "call", .str "jump"]) = some (.bool false) := by
        have q := in_s5 x.w "test" "go" "share" "call" "jump"
        rw [hb, inP_tup] at q
        rw [inP_tup]
        split at q
        · rename_i q2
          simp only [Bool.false_eq_true, if_false, Option.some.injEq, PyData.bool.injEq] at q
          rw [if_pos q2, q]; rfl
        · cases q
      have hj : j < 100 := by
        have := hx.i6
        have h5 := hx.lp
        unfold placeS at j1
        split at j1
        · cases j1; omega
        · simp only [placeS] at j1
          repeat' split at j1
          all_goals simp at j1
          all_goals omega
      have m0 : mulP (.int 2) (.int (j : Nat)) = some (.int (2 * (j : Nat))) := mulP_small (by omega) (by omega)
      have j3 : (6 : Int) + 2 * (j : Nat) = x.i := j2.symm
      by_cases hkf : (k : Int) ∈ far
      · obtain ⟨a', b', c', d', ih⟩ := ih0 (k + 1) (acc ++ bysI far P k x) (some (.dat (.int (k : Nat)))) (some (.dat x.v)) (some (.dat (.int x.i))) (some (.dat (.int (P.getD x.t.toNat 0)))) (fun y hy => h y (List.mem_cons_of_mem _ hy)) (by omega) (by simp only [List.length_append]; omega)
        refine ⟨a', b', c', d', ?_⟩
        have m1 : modP (.int (P.getD x.t.toNat 0)) (.int 256) = some (.int (P.getD x.t.toNat 0 % 256)) := modP_pos (by omega)
        have m2 : fdivP (.int (P.getD x.t.toNat 0)) (.int 256) = some (.int (P.getD x.t.toNat 0 / 256)) := fdivP_pos (by omega) (by decide)
        have hby : bysI far P k x = [.int (x.i + 1), .int (P.getD x.t.toNat 0 % 256), .int (P.getD x.t.toNat 0 / 256)] ++ x.rs := by simp [bysI, hxb, hkf]
        have hz2 : acc.length + (0 + 1 + 1 + 1) ≤ 16777216 := by omega
        have hz3 : (acc ++ [PyData.int (x.i + 1), PyData.int (P.getD x.t.toNat 0 % 256), PyData.int (P.getD x.t.toNat 0 / 256)]).length + x.rs.length ≤ 16777216 := by simp only [List.length_append, List.length_cons, List.length_nil]; omega
        have body : lb_made_by_0 [some (.dat ln), some (.ref S.length), some (.dat (.list (far.map PyData.int))), some (.dat (.list (P.map PyData.int))), some (.dat (.int (k : Nat))), some (.dat x.v), c, d] (S ++ [acc]) = .ok (.nx [some (.dat ln), some (.ref S.length), some (.dat (.list (far.map PyData.int))), some (.dat (.list (P.map PyData.int))), some (.dat (.int (k : Nat))), some (.dat x.v), some (.dat (.int x.i)), some (.dat (.int (P.getD x.t.toNat 0)))]) (S ++ [acc ++ bysI far P k x]) := by
          rw [hby, ← List.append_assoc]
          simp only [lb_made_by_0, seqS, ifS, boolT, parS, kixE, h0, ni, so_to, j1, m0, j3, op2, varE, conE, g1, t1, in_ints, hkf, decide_true, m1, m2, addP_int, dropS, mtE, callE, consA, nilA, lstE, tl, dats, extP, nxS, derefD, opt, R.bind, R.bindS, List.set, List.getElem?_cons_zero, List.getElem?_cons_succ, Option.map, List.length_cons, List.length_nil, sizeLine_eq, Nat.reduceLeDiff, hz2, hz3, if_true, get_last, set_last, Bool.false_eq_true, if_false]
        rw [List.map_cons]
        unfold enumL
        rw [forF_step (hs _) (δ1 := [some (.dat ln), some (.ref S.length), some (.dat (.list (far.map PyData.int))), some (.dat (.list (P.map PyData.int))), some (.dat (.int (k : Nat))), some (.dat x.v), c, d]) (S1 := S ++ [acc]) rfl body, ih]
        simp [bysL]
      · obtain ⟨a', b', c', d', ih⟩ := ih0 (k + 1) (acc ++ bysI far P k x) (some (.dat (.int (k : Nat)))) (some (.dat x.v)) (some (.dat (.int x.i))) (some (.dat (.int (P.getD x.t.toNat 0)))) (fun y hy => h y (List.mem_cons_of_mem _ hy)) (by omega) (by simp only [List.length_append]; omega)
        refine ⟨a', b', c', d', ?_⟩
        have g2 := ints_get (P := P) (i := (k : Int) + 1) (by omega) (by omega)
        have e2 : ((k : Int) + 1).toNat = k + 1 := by omega
        rw [e2] at g2
        have g3 : (128 : Int) + P.getD x.t.toNat 0 - P.getD (k + 1) 0 = byteI P k x := rfl
        have hby : bysI far P k x = [.int x.i, .int (byteI P k x)] ++ x.rs := by simp [bysI, hxb, hkf]
        have hz2 : acc.length + (0 + 1 + 1) ≤ 16777216 := by omega
        have hz3 : (acc ++ [PyData.int x.i, PyData.int (byteI P k x)]).length + x.rs.length ≤ 16777216 := by simp only [List.length_append, List.length_cons, List.length_nil]; omega
        have body : lb_made_by_0 [some (.dat ln), some (.ref S.length), some (.dat (.list (far.map PyData.int))), some (.dat (.list (P.map PyData.int))), some (.dat (.int (k : Nat))), some (.dat x.v), c, d] (S ++ [acc]) = .ok (.nx [some (.dat ln), some (.ref S.length), some (.dat (.list (far.map PyData.int))), some (.dat (.list (P.map PyData.int))), some (.dat (.int (k : Nat))), some (.dat x.v), some (.dat (.int x.i)), some (.dat (.int (P.getD x.t.toNat 0)))]) (S ++ [acc ++ bysI far P k x]) := by
          rw [hby, ← List.append_assoc]
          simp only [lb_made_by_0, seqS, ifS, boolT, parS, kixE, h0, ni, so_to, j1, m0, j3, op2, varE, conE, g1, g2, g3, t1, in_ints, hkf, decide_false, addP_int, subP, dropS, mtE, callE, consA, nilA, lstE, tl, dats, extP, nxS, derefD, opt, R.bind, R.bindS, List.set, List.getElem?_cons_zero, List.getElem?_cons_succ, Option.map, List.length_cons, List.length_nil, sizeLine_eq, Nat.reduceLeDiff, hz2, hz3, if_true, get_last, set_last, Bool.false_eq_true, if_false]
        rw [List.map_cons]
        unfold enumL
        rw [forF_step (hs _) (δ1 := [some (.dat ln), some (.ref S.length), some (.dat (.list (far.map PyData.int))), some (.dat (.list (P.map PyData.int))), some (.dat (.int (k : Nat))), some (.dat x.v), c, d]) (S1 := S ++ [acc]) rfl body, ih]
        simp [bysL]
end DL.k63

set_option Elab.async false
set_option linter.all false
set_option maxRecDepth 100000
set_option maxHeartbeats 4000000
namespace DL.k63
open PySem PySem.Spec PyProof.Rows L2 DL
/-! ### the last place -/
theorem plL_last : ∀ (ss : List Int) (p : Int), (∀ s ∈ ss, s ≤ 240) → ∃ (init : List Int) (z : Int), plL p ss = init ++ [z] ∧ z ≤ p + 240 * ss.length
  | [], p, _ => ⟨[], p, rfl, by simp⟩
  | s :: ss, p, h => by
    obtain ⟨init, z, e, hz⟩ := plL_last ss (p + s) fun x hx => h x (List.mem_cons_of_mem _ hx)
    have := h s (by simp)
    exact ⟨p :: init, z, by rw [plL, e]; rfl, by simp only [List.length_cons]; omega⟩
theorem szL_le {n : Nat} (far : List Int) : ∀ (xs : List IV) (k : Nat), (∀ x ∈ xs, IVok n x) → ∀ s ∈ szL far k xs, s ≤ 240
  | [], _, _, s, h => by simp [szL] at h
  | x :: xs, k, hx, s, h => by
    simp only [szL] at h
    rcases List.mem_cons.mp h with q | q
    · have := (hx x (by simp)).ln
      rw [q]; unfold szI
      split
      · split <;> omega
      · omega
    · exact szL_le far xs (k + 1) (fun y hy => hx y (List.mem_cons_of_mem _ hy)) s q
theorem want_size_ok {n : Nat} (many : Int) {xs : List IV} (h : ∀ x ∈ xs, IVok n x) (hn : xs.length = n) (hl : n ≤ 100) (S : Store) : F_want_size [.dat (lineD many xs)] S = .ok (.dat .none) S := by
  have e1 := longs_by_ok many h hn hl S
  obtain ⟨init, z, e2, hz⟩ := plL_last (szL (longsI xs) 0 xs) 4 (szL_le _ xs 0 h)
  rw [szL_len] at hz
  have e3 : (plx xs (longsI xs)).map PyData.int = init.map PyData.int ++ [.int z] := by unfold plx; rw [e2]; simp
  rw [e3] at e1
  have hz2 : ¬ z > 65536 := by omega
  have b : b_want_size [some (.dat (lineD many xs))] S = .ok (.nx [some (.dat (lineD many xs))]) S := by
    simp only [b_want_size, seqS, ifS, boolT, op2, gtP, callE, consA, nilA, varE, conE, negE, e1, ix1, ixlastl, nxS, hz2, derefD, opt, R.bind, R.bindS, List.getElem?_cons_zero, List.length_cons, List.length_nil, if_true, decide_false, Bool.false_eq_true, if_false]
  unfold F_want_size fnM
  simp only [List.map_cons, List.map_nil, List.replicate, List.append_nil, b, List.take_length]
theorem want_line_ok {v : PD} (hv : Ok v) (hb : lineB v = true) (S : Store) : F_want_line [.dat v] S = .ok (.dat v) S := by
  have e1 := line_ok v hv S
  rw [hb] at e1
  refine fnM_dat ?_ rfl
  simp only [b_want_line, List.map_cons, List.map_nil, List.replicate, List.append_nil, seqS, ifS, notT, truT, trueD, truP, callE, consA, nilA, varE, e1, nxS, retS, derefD, opt, R.bind, R.bindS, List.getElem?_cons_zero, List.length_cons, List.length_nil, if_true, Option.bind, Bool.not_true, Bool.false_eq_true, if_false]
/-- the code -/
def codeD (many : Int) (xs : List IV) : List PD := [.int 75, .int 83, .int 1, .int many] ++ bysL (longsI xs) (plx xs (longsI xs)) 0 xs
def posD (xs : List IV) : List PD := cutD ((plx xs (longsI xs)).map PyData.int) none (some (-1))
theorem made_ok {n : Nat} (many : Int) {xs : List IV} (h : ∀ x ∈ xs, IVok n x) (hn : xs.length = n) (hl : n ≤ 100) (S : Store) : F_made_by [.dat (lineD many xs)] S = .ok (.dat (.tuple [.tuple (codeD many xs), .tuple (posD xs)])) S := by
  have e1 := longs_by_ok many h hn hl S
  have hP : (plx xs (longsI xs)).length = n + 1 := by unfold plx; rw [plL_len, szL_len, hn]
  obtain ⟨a', b', c', d', e2⟩ := made_loop (n := n) S many (lineD many xs) (longsI xs) (plx xs (longsI xs)) hP ⟨enumL 0 (xs.map (·.v)), []⟩ (fun _ => ok_nil) xs 0 [.int 75, .int 83, .int 1, .int many] none none none none h (by omega) (by simp only [List.length_cons, List.length_nil]; omega)
  have l1 : l_made_by_1 [some (.dat (lineD many xs)), some (.ref S.length), some (.dat (.list ((longsI xs).map PyData.int))), some (.dat (.list ((plx xs (longsI xs)).map PyData.int))), none, none, none, none] (S ++ [[.int 75, .int 83, .int 1, .int many]]) = .ok (.nx [some (.dat (lineD many xs)), some (.ref S.length), some (.dat (.list ((longsI xs).map PyData.int))), some (.dat (.list ((plx xs (longsI xs)).map PyData.int))), a', b', c', d']) (S ++ [codeD many xs]) := by
    simp only [l_made_by_1, forS, enumI, consA, nilA, op2, varE, conE, ix2, enumV, derefD, opt, R.bind, R.bindS, List.getElem?_cons_zero]
    exact e2
  have e3 : posD xs = cutD ((plx xs (longsI xs)).map PyData.int) none (some (-1)) := rfl
  refine (fnM_ret (S' := S ++ [codeD many xs]) (p := .tuple [.tuple (codeD many xs), .tuple (posD xs)]) ?_).trans (by simp)
  rw [e3]
  generalize codeD many xs = CC at *
  generalize (plx xs (longsI xs)).map PyData.int = PP at *
  simp only [b_made_by, List.map_cons, List.map_nil, List.replicate, List.cons_append, List.nil_append, seqS, asgS, callE, consA, nilA, varE, e1, tupT, tsT, nmT, catC, blt, listP, conE, op2, ix1, lstE, dats, derefs, derefD, opt, R.bind, R.bindS, List.set, List.getElem?_cons_zero, List.getElem?_cons_succ, Option.map, Option.bind, List.length_cons, List.length_nil, sizeLine_eq, Nat.reduceLeDiff, Nat.reduceAdd, if_true, l1]
  simp [l1, retS, tupE, consA, nilA, blt, tupleP, varE, slcE, noO, someO, negE, conE, cutP, get_last, derefs, derefD, dats, opt, R.bind, R.bindS, sizeLine_eq]
theorem code_ok {n : Nat} (many : Int) {xs : List IV} (hv : Ok (lineD many xs)) (hb : lineB (lineD many xs) = true) (h : ∀ x ∈ xs, IVok n x) (hn : xs.length = n) (hl : n ≤ 100) (S : Store) : F_code_of_line [.dat (lineD many xs)] S = .ok (.dat (.tuple (codeD many xs))) S := by
  have e1 := want_line_ok hv hb S
  have e2 := want_size_ok many h hn hl S
  have e3 := made_ok many h hn hl S
  refine fnM_dat ?_ rfl
  simp only [b_code_of_line, List.map_cons, List.map_nil, List.replicate, List.append_nil, seqS, dropS, callE, consA, nilA, varE, conE, e1, e2, e3, retS, op2, ix0, derefD, opt, R.bind, R.bindS, List.getElem?_cons_zero, List.length_cons, List.length_nil, if_true]
theorem positions_ok {n : Nat} (many : Int) {xs : List IV} (hv : Ok (lineD many xs)) (hb : lineB (lineD many xs) = true) (h : ∀ x ∈ xs, IVok n x) (hn : xs.length = n) (hl : n ≤ 100) (S : Store) : F_positions [.dat (lineD many xs)] S = .ok (.dat (.tuple (posD xs))) S := by
  have e1 := want_line_ok hv hb S
  have e2 := want_size_ok many h hn hl S
  have e3 := longs_by_ok many h hn hl S
  refine fnM_dat ?_ rfl
  simp only [b_positions, List.map_cons, List.map_nil, List.replicate, List.append_nil, seqS, dropS, callE, consA, nilA, varE, conE, e1, e2, e3, retS, op2, ix1, blt, tupleP, slcE, noO, someO, negE, cutP, derefs, derefD, opt, R.bind, R.bindS, List.getElem?_cons_zero, List.length_cons, List.length_nil, if_true, Option.bind, Option.map, posD]
theorem longs_ok {n : Nat} (many : Int) {xs : List IV} (hv : Ok (lineD many xs)) (hb : lineB (lineD many xs) = true) (h : ∀ x ∈ xs, IVok n x) (hn : xs.length = n) (hl : n ≤ 100) (S : Store) : F_longs [.dat (lineD many xs)] S = .ok (.dat (.tuple ((longsI xs).map PyData.int))) S := by
  have e1 := want_line_ok hv hb S
  have e2 := want_size_ok many h hn hl S
  have e3 := longs_by_ok many h hn hl S
  refine fnM_dat ?_ rfl
  simp only [b_longs, List.map_cons, List.map_nil, List.replicate, List.append_nil, seqS, dropS, callE, consA, nilA, varE, conE, e1, e2, e3, retS, op2, ix0, blt, tupleP, derefs, derefD, opt, R.bind, R.bindS, List.getElem?_cons_zero, List.length_cons, List.length_nil, if_true, Option.bind, Option.map]
/-! ### the same -/
def Sv : Nat → PD → Prop
  | 0, v => ∃ i : Int, v = .int i
  | d + 1, v => ∃ ds, (v = .tuple ds ∨ v = .list ds) ∧ ds.length ≤ 100000 ∧ ∀ x ∈ ds, Sv d x
theorem zip_same : ∀ {ds : List PD} {p : PD}, p ∈ zipL ds ds → ∃ a, a ∈ ds ∧ p = .tuple [a, a]
  | [], p, h => by simp [zipL] at h
  | d :: ds, p, h => by
    simp only [zipL, List.mem_cons] at h
    rcases h with h | h
    · exact ⟨d, by simp, h⟩
    · obtain ⟨a, h1, h2⟩ := zip_same h
      exact ⟨a, List.mem_cons_of_mem _ h1, h2⟩
theorem zip_short2 : ∀ (ds : List PD), (zipL ds ds).length = ds.length
  | [] => rfl
  | d :: ds => by simp [zipL, zip_short2 ds]
theorem all_true (l : List PD) : allP [.list (l.map fun _ => PyData.bool true)] = some (.bool true) := by
  rw [allP_map (fun _ => true)]; simp
theorem is_none_int (i : Int) : isP false (.int i) .none = some (.bool false) := rfl
theorem is_none_tup (ds : List PD) : isP false (.tuple ds) .none = some (.bool false) := rfl
theorem is_none_lst (ds : List PD) : isP false (.list ds) .none = some (.bool false) := rfl
theorem same_ok (S : Store) : ∀ (d f : Nat) (v : PD), Sv d v → d + 1 ≤ f → F_law_same f [.dat v, .dat v] S = .ok (.dat (.bool true)) S
  | _, 0, _, _, h => by omega
  | 0, f + 1, v, hv, _ => by
    obtain ⟨i, rfl⟩ := hv
    refine fnM_dat ?_ rfl
    simp [b_law_same, is_none_int, eqP_int, seqS, asgS, ifS, boolT, op2, retS, retN, dropS, varE, conE, blt, bltC, consA, nilA, tupT, subT, nmT, tsT, nxS, R.bind, R.bindS, opt, derefD, derefs, dats, datD, subV, callE, callK, pick, andT, orT, notT, truT, trueD, truP, andE, orE, notE, iteE, isiE, isiP, tupE, lstE, celE, chainE, negE, slcE, someO, noO, cutP, mtE, mnE, parS, seqI, srcD, rngI1, rngI2, rg1, rg2, lrgE, lrgC, trgE, forS, ix0, ix1, ix2, ix3, ix4, ixl0, ixl1, gtP, ltP, leP, geP, addP, subP, absP, maxP, minP, intP, boolP, lenP, tupleP, listP, listC, sizeLine_eq]
  | d + 1, f + 1, v, hv, hf => by
    obtain ⟨ds, e, hl, hx⟩ := hv
    have ih : ∀ x ∈ ds, F_law_same f [.dat x, .dat x] S = .ok (.dat (.bool true)) S := fun x h => same_ok S d f x (hx x h) (by omega)
    rcases e with rfl | rfl
    · have hc : c_law_same_0 (F_law_same f) [some (.dat (.tuple ds)), some (.dat (.tuple ds)), none, none] S = .ok (.dat (.list ((zipL ds ds).map fun _ => .bool true))) S := by
        refine lcE_pure (fun _ => .bool true) (by simp only [zipI, consA, nilA, varE, zipV, derefD, opt, R.bind, List.getElem?_cons_zero, List.getElem?_cons_succ]) (fun p hp => ?_) (by rw [zip_short2]; simp only [sizeLine_eq]; omega)
        obtain ⟨a, ha, rfl⟩ := zip_same hp
        refine ⟨[some (.dat (.tuple ds)), some (.dat (.tuple ds)), some (.dat a), some (.dat a)], rfl, ?_⟩
        simp only [callE, consA, nilA, varE, R.bind, List.getElem?_cons_zero, List.getElem?_cons_succ, ih a ha, List.length_cons, List.length_nil, if_true]
      refine fnM_dat ?_ rfl
      simp [b_law_same, is_none_tup, neP_int, hc, all_true, -List.map_const', -List.map_const_fun, seqS, asgS, ifS, boolT, op2, retS, retN, dropS, varE, conE, blt, bltC, consA, nilA, tupT, subT, nmT, tsT, nxS, R.bind, R.bindS, opt, derefD, derefs, dats, datD, subV, callE, callK, pick, andT, orT, notT, truT, trueD, truP, andE, orE, notE, iteE, isiE, isiP, tupE, lstE, celE, chainE, negE, slcE, someO, noO, cutP, mtE, mnE, parS, seqI, srcD, rngI1, rngI2, rg1, rg2, lrgE, lrgC, trgE, forS, ix0, ix1, ix2, ix3, ix4, ixl0, ixl1, gtP, ltP, leP, geP, addP, subP, absP, maxP, minP, intP, boolP, lenP, tupleP, listP, listC, sizeLine_eq]
    · have hc : c_law_same_1 (F_law_same f) [some (.dat (.list ds)), some (.dat (.list ds)), none, none] S = .ok (.dat (.list ((zipL ds ds).map fun _ => .bool true))) S := by
        refine lcE_pure (fun _ => .bool true) (by simp only [zipI, consA, nilA, varE, zipV, csD, derefD, opt, R.bind, List.getElem?_cons_zero, List.getElem?_cons_succ, List.append_nil]) (fun p hp => ?_) (by rw [zip_short2]; simp only [sizeLine_eq]; omega)
        obtain ⟨a, ha, rfl⟩ := zip_same hp
        refine ⟨[some (.dat (.list ds)), some (.dat (.list ds)), some (.dat a), some (.dat a)], rfl, ?_⟩
        simp only [callE, consA, nilA, varE, R.bind, List.getElem?_cons_zero, List.getElem?_cons_succ, ih a ha, List.length_cons, List.length_nil, if_true]
      refine fnM_dat ?_ rfl
      simp [b_law_same, is_none_lst, neP_int, hc, all_true, -List.map_const', -List.map_const_fun, seqS, asgS, ifS, boolT, op2, retS, retN, dropS, varE, conE, blt, bltC, consA, nilA, tupT, subT, nmT, tsT, nxS, R.bind, R.bindS, opt, derefD, derefs, dats, datD, subV, callE, callK, pick, andT, orT, notT, truT, trueD, truP, andE, orE, notE, iteE, isiE, isiP, tupE, lstE, celE, chainE, negE, slcE, someO, noO, cutP, mtE, mnE, parS, seqI, srcD, rngI1, rngI2, rg1, rg2, lrgE, lrgC, trgE, forS, ix0, ix1, ix2, ix3, ix4, ixl0, ixl1, gtP, ltP, leP, geP, addP, subP, absP, maxP, minP, intP, boolP, lenP, tupleP, listP, listC, sizeLine_eq]
end DL.k63

set_option Elab.async false
set_option linter.all false
set_option maxRecDepth 100000
set_option maxHeartbeats 4000000
namespace DL.k63
open PySem PySem.Spec PyProof.Rows L2 DL
/-! ### the law -/
theorem repr_of {v : PD} (h : showOk v = true) : reprP [v] = some (.str v.shown) := by simp only [reprP]; rw [if_pos h]
theorem twice_ok (x : PD) : mulP (.list [x]) (.int 2) = some (.list [x, x]) := by
  simp only [mulP]
  rw [if_pos ⟨by decide, by decide, by simp only [sizeLine_eq]; simp⟩]
  rfl
theorem bys_int {n : Nat} (far P : List Int) : ∀ (xs : List IV) (k : Nat), (∀ x ∈ xs, IVok n x) → ∀ z ∈ bysL far P k xs, Sv 0 z
  | [], _, _, z, h => by simp [bysL] at h
  | x :: xs, k, hx, z, h => by
    simp only [bysL] at h
    rcases List.mem_append.mp h with q | q
    · have ai := (hx x (by simp)).ai
      unfold bysI at q
      split at q
      · rcases List.mem_append.mp q with q | q
        · split at q
          · simp only [List.mem_cons, List.not_mem_nil, or_false] at q
            rcases q with q | q | q <;> exact ⟨_, q⟩
          · simp only [List.mem_cons, List.not_mem_nil, or_false] at q
            rcases q with q | q <;> exact ⟨_, q⟩
        · exact ai z q
      · rcases List.mem_cons.mp q with q | q
        · exact ⟨_, q⟩
        · exact ai z q
    · exact bys_int far P xs (k + 1) (fun y hy => hx y (List.mem_cons_of_mem _ hy)) z q
theorem bysL_len {n : Nat} (far P : List Int) : ∀ (xs : List IV) (k : Nat), (∀ x ∈ xs, IVok n x) → (bysL far P k xs).length ≤ 233 * xs.length
  | [], _, _ => by simp [bysL]
  | x :: xs, k, hx => by
    have := bysI_len far P k (hx x (by simp))
    have := bysL_len far P xs (k + 1) fun y hy => hx y (List.mem_cons_of_mem _ hy)
    simp only [bysL, List.length_append, List.length_cons]; omega
theorem ints_sv (l : List Int) : ∀ z ∈ l.map PyData.int, Sv 0 z := fun z hz => by
  obtain ⟨i, _, rfl⟩ := List.mem_map.mp hz
  exact ⟨i, rfl⟩
theorem pair_sv {t : PD} (h : Sv 1 t) : Sv 2 (.list [t, t]) := ⟨[t, t], .inr rfl, by simp, fun x hx => by
  simp only [List.mem_cons, List.not_mem_nil, or_false] at hx
  rcases hx with rfl | rfl <;> exact h⟩
theorem least_abs (G1 : List D → M D) (v r : PD) (S : Store) (e : G1 [.dat v, .dat (.list [])] S = .ok (.dat r) S) : (seqS (retS (callE 2 G1 (consA (varE 0) (consA (lstE nilA) nilA)))) nxS) [some (.dat v)] S = .ok (.ret (.dat r)) S := by
  simp only [seqS, retS, callE, consA, nilA, varE, lstE, dats, e, opt, R.bind, R.bindS, List.getElem?_cons_zero, List.length_cons, List.length_nil, sizeLine_eq, Nat.zero_le, if_true]
theorem least_ok {n : Nat} (many : Int) {xs : List IV} (h : ∀ x ∈ xs, IVok n x) (hn : xs.length = n) (hl : n ≤ 100) (S : Store) : F_law_least [.dat (lineD many xs)] S = .ok (.dat (.list ((longsI xs).map PyData.int))) S :=
  fnM_dat (least_abs F_law_grown _ _ S (grown_ok many h hn hl S)) rfl
theorem right_abs (G1 G2 G3 G4 G5 G6 G7 : List D → M D) (VV : PD) (CC PP QQ LL l l1 : List PD) (A : Store) (most : Int)
    (e1 : G1 [.ref A.length, .dat (.int most)] (A ++ [l]) = .ok (.dat VV) (A ++ [l1]))
    (s1 : reprP [VV] = some (.str VV.shown))
    (e2 : ∀ S, G2 [.dat VV] S = .ok (.dat (.list LL)) S)
    (e3 : ∀ S, G3 [.dat VV, .dat (.list LL)] S = .ok (.dat (.tuple [.list CC, .list PP, .list []])) S)
    (q1 : ∀ S, G4 [.dat (.list [.tuple CC, .tuple CC]), .dat (.list [.tuple CC, .tuple CC])] S = .ok (.dat (.bool true)) S)
    (q2 : ∀ S, G4 [.dat (.list [.tuple QQ, .tuple QQ]), .dat (.list [.tuple QQ, .tuple QQ])] S = .ok (.dat (.bool true)) S)
    (q3 : ∀ S, G4 [.dat (.list [.tuple LL, .tuple LL]), .dat (.list [.tuple LL, .tuple LL])] S = .ok (.dat (.bool true)) S)
    (c1 : ∀ S, G5 [.dat VV] S = .ok (.dat (.tuple CC)) S)
    (c2 : ∀ S, G6 [.dat VV] S = .ok (.dat (.tuple QQ)) S)
    (c3 : ∀ S, G7 [.dat VV] S = .ok (.dat (.tuple LL)) S)
    (hpos : cutD PP none (some (-1)) = QQ) :
    (seqS (asgS (callE 2 G1 (consA (varE 0) (consA (varE 1) nilA))) (nmT 2)) (seqS (parS 3 4 (consA (blt reprP (consA (varE 2) nilA)) (consA (callE 1 G2 (consA (varE 2) nilA)) nilA))) (seqS (asgS (callE 2 G3 (consA (varE 2) (consA (varE 4) nilA))) (tupT [(nmT 5), (nmT 6), (nmT 7)])) (seqS (ifS (orT (notT (truT (callE 2 G4 (consA (lstE (consA (callE 1 G5 (consA (varE 2) nilA)) (consA (callK 1 G5 [0] nilA (consA (varE 2) nilA)) nilA))) (consA (lstE (consA (blt tupleP (consA (varE 5) nilA)) (consA (blt tupleP (consA (varE 5) nilA)) nilA))) nilA))))) (boolT (op2 neP (varE 7) (lstE nilA)))) (seqS (retS (conE (.bool false))) nxS) nxS) (seqS (ifS (notT (truT (callE 2 G4 (consA (lstE (consA (callE 1 G6 (consA (varE 2) nilA)) (consA (callK 1 G6 [0] nilA (consA (varE 2) nilA)) nilA))) (consA (op2 mulP (lstE (consA (blt tupleP (consA (slcE (varE 6) noO (someO (negE (conE (.int 1))))) nilA)) nilA)) (conE (.int 2))) nilA))))) (seqS (retS (conE (.bool false))) nxS) nxS) (seqS (retS (andE (callE 2 G4 (consA (lstE (consA (callE 1 G7 (consA (varE 2) nilA)) (consA (callK 1 G7 [0] nilA (consA (varE 2) nilA)) nilA))) (consA (op2 mulP (lstE (consA (blt tupleP (consA (varE 4) nilA)) nilA)) (conE (.int 2))) nilA))) (op2 eqP (blt reprP (consA (varE 2) nilA)) (varE 3)))) nxS)))))) [some (.ref A.length), some (.dat (.int most)), none, none, none, none, none, none] (A ++ [l]) = .ok (.ret (.dat (.bool true))) (A ++ [l1]) := by
  have ne : neP (.list []) (.list []) = some (.bool false) := by simp [neP, eqOk, eqOk.go, PyData.eqv, PyData.eqvAll]
  simp only [List.map_cons, List.map_nil, List.replicate, List.cons_append, List.nil_append, seqS, asgS, nmT, callE, consA, nilA, varE, e1, parS, blt, s1, e2, e3, tupT, tsT, ifS, orT, notT, truT, trueD, truP, lstE, dats, c1, c2, c3, callK, pick, tupleP, q1, q2, q3, boolT, op2, ne, slcE, noO, someO, negE, conE, cutP, hpos, twice_ok, nxS, retS, andE, eqP_str, derefs, derefD, opt, R.bind, R.bindS, List.set, List.getElem?_cons_zero, List.getElem?_cons_succ, Option.map, Option.bind, List.length_cons, List.length_nil, List.filterMap_cons, List.filterMap_nil, sizeLine_eq, Nat.reduceLeDiff, Nat.reduceAdd, Nat.zero_le, if_true, Bool.not_true, Bool.false_eq_true, if_false, List.append_nil, beq_self_eq_true]
theorem right_ok {l : List PD} (hl : Pot l) (A : Store) (most : Int) (o1 : 1 ≤ most) (o2 : most ≤ 30) : ∃ l', F_law_right [.ref A.length, .dat (.int most)] (A ++ [l]) = .ok (.dat (.bool true)) (A ++ [l']) ∧ Pot l' := by
  obtain ⟨v, l1, e1, hv, hl1⟩ := lcut_ok hl A [] most o1 o2
  obtain ⟨many, n, is, rfl, m0, m8, hlen, n1, n2, hin⟩ := hv.nm
  obtain ⟨xs, hxs, h⟩ := ivs_of m0 m8 hin
  have hn : xs.length = n := by rw [← hlen, ← hxs, List.length_map]
  have ev : (PyData.tuple [.str "line", .int many, .tuple is]) = lineD many xs := by rw [← hxs]
  rw [ev] at e1 hv
  have ok : Ok (lineD many xs) := ⟨⟨_, _, hv.gd⟩, by have := hv.sz; omega⟩
  have s1 := repr_of (gd_show (k := 10) (by omega) (by omega) (by omega) hv.gd (by omega) (Nat.le_refl (sz (lineD many xs))) (by have := hv.sz; omega))
  have c1 := fun S => code_ok many ok hv.is h hn (by omega) S
  have c2 := fun S => positions_ok many ok hv.is h hn (by omega) S
  have c3 := fun S => longs_ok many ok hv.is h hn (by omega) S
  have e2 := fun S => least_ok many h hn (by omega) S
  have e3 := fun S => packed_ok many (longsI xs) h hn (by omega) S
  have hbad : bad xs (longsI xs) = [] := (grow_done xs (xs.length + 1) [] (fa_nil _) (by simp)).1
  rw [hbad, List.map_nil] at e3
  have hcode : [PyData.int 75, PyData.int 83, PyData.int 1, PyData.int many] ++ bysL (longsI xs) (plx xs (longsI xs)) 0 xs = codeD many xs := rfl
  have hpos : cutD ((plx xs (longsI xs)).map PyData.int) none (some (-1)) = posD xs := rfl
  have hPl : (plx xs (longsI xs)).length = n + 1 := by unfold plx; rw [plL_len, szL_len, hn]
  have v1 : Sv 1 (.tuple (codeD many xs)) := ⟨_, .inl rfl, by
    have := bysL_len (longsI xs) (plx xs (longsI xs)) xs 0 h
    unfold codeD
    simp only [List.length_append, List.length_cons, List.length_nil]; omega, fun z hz => by
    unfold codeD at hz
    rcases List.mem_append.mp hz with q | q
    · simp only [List.mem_cons, List.not_mem_nil, or_false] at q
      rcases q with q | q | q | q <;> exact ⟨_, q⟩
    · exact bys_int _ _ xs 0 h z q⟩
  have v2 : Sv 1 (.tuple (posD xs)) := ⟨_, .inl rfl, by
    unfold posD cutD
    simp only [List.length_take, List.length_drop, List.length_map]; omega, fun z hz => ints_sv _ z (List.mem_of_mem_drop (List.mem_of_mem_take hz))⟩
  have v3 : Sv 1 (.tuple ((longsI xs).map PyData.int)) := ⟨_, .inl rfl, by
    have := (grow_done xs (xs.length + 1) [] (fa_nil _) (by simp)).2.len
    have e : grow xs (xs.length + 1) [] = longsI xs := rfl
    rw [e] at this
    simp only [List.length_map]; omega, ints_sv _⟩
  have q1 := fun S => same_ok S 2 6 _ (pair_sv v1) (by omega)
  have q2 := fun S => same_ok S 2 6 _ (pair_sv v2) (by omega)
  have q3 := fun S => same_ok S 2 6 _ (pair_sv v3) (by omega)
  rw [hcode] at e3
  exact ⟨l1, fnM_dat (right_abs F_law_line F_law_least F_law_packed (F_law_same 6) F_code_of_line F_positions F_longs (lineD many xs) (codeD many xs) _ (posD xs) _ l l1 A most e1 s1 e2 e3 q1 q2 q3 c1 c2 c3 hpos) (by simp), hl1⟩
theorem pow18 : powP (.int 10) (.int 18) = some (.int 1000000000000000000) := by simp [powP]
theorem pot_ok (ns : List Int) (k : Int) (h0 : 0 ≤ k) (h1 : k ≤ 3) (A : Store) : ∃ l, F_law_pot [.dat (.list (ns.map PyData.int)), .dat (.int k)] A = .ok (.ref A.length) (A ++ [l]) ∧ Pot l := by
  have fin : ∀ cell : Int, 0 ≤ cell → ∃ l, Pot l ∧ ∀ δ : DEnv, δ = [some (.dat (.list (ns.map PyData.int))), some (.dat (.int k)), some (.dat (.int cell))] →
      (seqS (retS (celE (consA (blt maxP (consA (conE (.int 0)) (consA (op2 subP (varE 2) (op2 powP (conE (.int 10)) (conE (.int 18)))) nilA))) (consA (op2 addP (op2 modP (blt intP (consA (op2 addP (op2 addP (op2 mulP (op2 modP (blt intP (consA (varE 2) nilA)) (conE (.int 2147483549))) (conE (.int 40014))) (op2 mulP (conE (.int 40853)) (varE 1))) (conE (.int 7001))) nilA)) (conE (.int 2147483563))) (conE (.int 1))) nilA)))) nxS) δ A = .ok (.ret (.ref A.length)) (A ++ [l]) := fun cell hc => by
    have c1 : (0 : Int) ≤ cell % 2147483549 := Int.emod_nonneg _ (by omega)
    have c2 : cell % 2147483549 < 2147483549 := Int.emod_lt_of_pos _ (by omega)
    have m1 : mulP (.int (cell % 2147483549)) (.int 40014) = some (.int (cell % 2147483549 * 40014)) := mulP_small (by omega) (by omega)
    have m2 : mulP (.int 40853) (.int k) = some (.int (40853 * k)) := mulP_small (by omega) (by omega)
    have m3 : ∀ i : Int, modP (.int i) (.int 2147483549) = some (.int (i % 2147483549)) := fun i => modP_pos (by omega)
    have m4 : ∀ i : Int, modP (.int i) (.int 2147483563) = some (.int (i % 2147483563)) := fun i => modP_pos (by omega)
    refine ⟨[.int (if cell - 1000000000000000000 > 0 then cell - 1000000000000000000 else 0), .int ((cell % 2147483549 * 40014 + 40853 * k + 7001) % 2147483563 + 1)], ⟨_, _, rfl, ?_, ?_⟩, fun δ e => ?_⟩
    · have := Int.emod_nonneg (cell % 2147483549 * 40014 + 40853 * k + 7001) (b := 2147483563) (by omega)
      omega
    · have := Int.emod_lt_of_pos (cell % 2147483549 * 40014 + 40853 * k + 7001) (b := 2147483563) (by omega)
      omega
    · subst e
      simp [m1, m2, m3, m4, pow18, sizeLine_eq, seqS, asgS, ifS, boolT, op2, retS, retN, dropS, varE, conE, blt, bltC, consA, nilA, tupT, subT, nmT, tsT, nxS, R.bind, R.bindS, opt, derefD, derefs, dats, datD, subV, callE, callK, pick, andT, orT, notT, truT, trueD, truP, andE, orE, notE, iteE, isiE, isiP, tupE, lstE, celE, chainE, negE, slcE, someO, noO, cutP, mtE, mnE, parS, seqI, srcD, rngI1, rngI2, rg1, rg2, lrgE, lrgC, trgE, forS, ixP, atI, ixN, gtP, ltP, leP, geP, addP, subP, absP, maxP, minP, intP, boolP, lenP, tupleP, listP, listC]
  by_cases hk : k < ns.length
  · have hi : k.toNat < ns.length := by omega
    obtain ⟨l, hl, e⟩ := fin (if ns[k.toNat] < 0 then -ns[k.toNat] else ns[k.toNat]) (by split <;> omega)
    refine ⟨l, ?_, hl⟩
    have g : ixP (.list (ns.map PyData.int)) (.int k) = some (.int ns[k.toNat]) := by
      simp only [ixP, atI, ixN, List.length_map]
      rw [if_pos h0, if_pos hk]
      simp [hi]
    have e2 := e _ rfl
    have body : b_law_pot [some (.dat (.list (ns.map PyData.int))), some (.dat (.int k)), none] A = .ok (.ret (.ref A.length)) (A ++ [l]) := by
      rw [← e2]
      unfold b_law_pot
      have first : asgS (iteE (boolT (op2 ltP (varE 1) (blt lenP (consA (varE 0) nilA)))) (blt absP (consA (op2 ixP (varE 0) (varE 1)) nilA)) (op2 addP (op2 mulP (conE (.int 2593)) (varE 1)) (conE (.int 4133)))) (nmT 2) [some (.dat (.list (ns.map PyData.int))), some (.dat (.int k)), none] A =
          .ok (.nx [some (.dat (.list (ns.map PyData.int))), some (.dat (.int k)), some (.dat (.int (if ns[k.toNat] < 0 then -ns[k.toNat] else ns[k.toNat])))]) A := by
        simp [g, hk, asgS, iteE, boolT, op2, ltP, varE, blt, lenP, consA, nilA, absP, nmT, R.bind, R.bindS, opt, derefs, derefD]
      rw [seqS, first]
    unfold F_law_pot fnM
    show (match b_law_pot [some (.dat (.list (ns.map PyData.int))), some (.dat (.int k)), none] A with | .ok (.nx _) S' => R.ok (D.dat .none) (S'.take A.length) | .ok (.ret d) S' => endD true A.length d S' | .ok (.rtT rs) S' => endT A.length rs S' | .exc x _ S' => .exc x (S'.take A.length) | _ => .bad) = _
    rw [body]
    simp [endD]
  · obtain ⟨l, hl, e⟩ := fin (2593 * k + 4133) (by omega)
    refine ⟨l, ?_, hl⟩
    have m2 : mulP (.int 2593) (.int k) = some (.int (2593 * k)) := mulP_small (by omega) (by omega)
    have e2 := e _ rfl
    have body : b_law_pot [some (.dat (.list (ns.map PyData.int))), some (.dat (.int k)), none] A = .ok (.ret (.ref A.length)) (A ++ [l]) := by
      rw [← e2]
      unfold b_law_pot
      have first : asgS (iteE (boolT (op2 ltP (varE 1) (blt lenP (consA (varE 0) nilA)))) (blt absP (consA (op2 ixP (varE 0) (varE 1)) nilA)) (op2 addP (op2 mulP (conE (.int 2593)) (varE 1)) (conE (.int 4133)))) (nmT 2) [some (.dat (.list (ns.map PyData.int))), some (.dat (.int k)), none] A =
          .ok (.nx [some (.dat (.list (ns.map PyData.int))), some (.dat (.int k)), some (.dat (.int (2593 * k + 4133)))]) A := by
        simp [m2, hk, asgS, iteE, boolT, op2, ltP, varE, conE, blt, lenP, consA, nilA, addP, nmT, R.bind, R.bindS, opt, derefs, derefD]
      rw [seqS, first]
    unfold F_law_pot fnM
    show (match b_law_pot [some (.dat (.list (ns.map PyData.int))), some (.dat (.int k)), none] A with | .ok (.nx _) S' => R.ok (D.dat .none) (S'.take A.length) | .ok (.ret d) S' => endD true A.length d S' | .ok (.rtT rs) S' => endT A.length rs S' | .exc x _ S' => .exc x (S'.take A.length) | _ => .bad) = _
    rw [body]
    simp [endD]
theorem lbody_ok2 (ns : List Int) (S : Store) (k : Int) (k0 : 0 ≤ k) (k1 : k ≤ 3) (a b : Option D) : ∃ S' a' b', lb_law_1 [some (.dat (.list (ns.map PyData.int))), some (.dat (.int k)), a, b] S = .ok (.nx [some (.dat (.list (ns.map PyData.int))), some (.dat (.int k)), a', b']) S' := by
  obtain ⟨l, e1, hl⟩ := pot_ok ns k k0 k1 S
  obtain ⟨res, S', e, h1, h2, _⟩ := lcE_draw (it := seqI (tupE (consA (conE (.int 3)) (consA (conE (.int 9)) (consA (conE (.int 30)) nilA))))) (g := nmT 3) (fx := callE 2 F_law_right (consA (varE 2) (consA (varE 3) nilA))) (vs := [3])
    (δ := [some (.dat (.list (ns.map PyData.int))), some (.dat (.int k)), some (.ref S.length), b]) (S := S ++ [l]) (S1 := S ++ [l]) (ds := [.int 3, .int 9, .int 30]) (fun S2 => ∃ l, S2 = S ++ [l] ∧ Pot l) (fun p => p = .bool true)
    (by simp [seqI, tupE, consA, conE, nilA, dats, srcD, opt, R.bind, sizeLine_eq]) ⟨l, rfl, hl⟩ (fun p hp S2 hS => by
      obtain ⟨l2, rfl, hl2⟩ := hS
      have : ∃ m : Int, p = .int m ∧ 1 ≤ m ∧ m ≤ 30 := by
        simp only [List.mem_cons, List.not_mem_nil, or_false] at hp
        rcases hp with rfl | rfl | rfl <;> exact ⟨_, rfl, by omega, by omega⟩
      obtain ⟨m, rfl, h1, h2⟩ := this
      obtain ⟨l3, e3, hl3⟩ := right_ok hl2 S m h1 h2
      refine ⟨[some (.dat (.list (ns.map PyData.int))), some (.dat (.int k)), some (.ref S.length), some (.dat (.int m))], .bool true, S ++ [l3], rfl, ?_, rfl, l3, rfl, hl3⟩
      simp only [callE, consA, nilA, varE, R.bind, List.getElem?_cons_zero, List.getElem?_cons_succ, e3, List.length_cons, List.length_nil, if_true]) (by simp only [sizeLine_eq, List.length_cons, List.length_nil]; omega)
  have ha : allP [.list res] = some (.bool true) := by
    have : res = res.map fun _ => PyData.bool true := by
      conv => lhs; rw [← List.map_id res]
      exact List.map_congr_left fun x hx => by simp [h2 x hx]
    rw [this]; exact all_true res
  have hc : c_law_0 [some (.dat (.list (ns.map PyData.int))), some (.dat (.int k)), some (.ref S.length), b] (S ++ [l]) = .ok (.dat (.list res)) S' := e
  refine ⟨S', some (.ref S.length), b, ?_⟩
  simp only [lb_law_1, seqS, asgS, nmT, callE, consA, nilA, varE, e1, ifS, notT, truT, trueD, truP, blt, hc, ha, nxS, derefs, derefD, opt, R.bind, R.bindS, List.set, List.getElem?_cons_zero, List.getElem?_cons_succ, Option.map, Option.bind, List.length_cons, List.length_nil, if_true, Bool.not_true, Bool.false_eq_true, if_false]
theorem law_true (ns : List Int) (h : ns.length ≤ 63) (hb : ∀ i ∈ ns, Builtin.Int.intBits i ≤ 1048576) : ∃ S, F_law [.dat (.list (ns.map PyData.int))] [] = .ok (.dat (.bool true)) S := by
  have hn : ∃ n : Nat, n ≤ 2 ∧ maxP [.int 1, .int (if (ns.length : Int) < 2 then (ns.length : Int) else 2)] = some (.int (n : Nat)) := by
    by_cases h1 : ns.length ≤ 1
    · exact ⟨1, by omega, by simp only [maxP]; congr 2; split <;> split <;> omega⟩
    · exact ⟨2, by omega, by simp only [maxP]; congr 2; split <;> split <;> omega⟩
  obtain ⟨n, hn2, hm⟩ := hn
  have hr := rng_nat (fe := blt maxP (consA (conE (.int 1)) (consA (blt minP (consA (conE (.int 2)) (consA (blt lenP (consA (varE 0) nilA)) nilA))) nilA))) (δ := [some (.dat (.list (ns.map PyData.int))), none, none, none]) (S := []) (S1 := []) (m := (n : Nat)) (by
    simp only [blt, consA, nilA, conE, varE, minP, lenP, hm, derefs, derefD, opt, R.bind, List.getElem?_cons_zero, Option.bind, Option.map, List.length_map]) (by omega) (by omega)
  rw [Int.toNat_natCast] at hr
  obtain ⟨δ', S', e3, ⟨k, a, b, hδ⟩⟩ := forF_nx (src := ⟨rangeL 0 n, []⟩) (tgt := nmT 1) (body := lb_law_1) (fun δ _ => ∃ k a b, δ = [some (.dat (.list (ns.map PyData.int))), k, a, b]) (fun _ _ _ => ok_nil) (rangeL 0 n) [some (.dat (.list (ns.map PyData.int))), none, none, none] [] (fun p hp δ S hδ => by
    obtain ⟨k, a, b, rfl⟩ := hδ
    obtain ⟨i, hi, rfl⟩ := rangeL_mem hp
    obtain ⟨S', a', b', e⟩ := lbody_ok2 ns S ((0 : Int) + (i : Nat)) (by omega) (by omega) a b
    exact ⟨[some (.dat (.list (ns.map PyData.int))), some (.dat (.int ((0 : Int) + (i : Nat)))), a, b], S, _, S', rfl, e, _, _, _, rfl⟩) ⟨none, none, none, rfl⟩
  have e4 : l_law_2 [some (.dat (.list (ns.map PyData.int))), none, none, none] [] = .ok (.nx δ') S' := by
    unfold l_law_2 forS
    rw [hr]
    exact e3
  refine ⟨_, fnM_ret (p := .bool true) (S' := S') ?_⟩
  exact (seqS_nx e4).trans rfl
end DL.k63

set_option Elab.async false
set_option linter.all false
set_option maxRecDepth 100000
set_option maxHeartbeats 0
namespace DL.k63
open PySem PySem.Spec PyProof.Rows L2 DL
noncomputable section
abbrev R : PySem.W.OpenRow := PySem.W.OpenLaw.row PySem.Challenge.rw_knownstops_k63_codes_of_lines
abbrev hk : PySem.W.Hook := hookM 4 (mkFa dls frs) (mkFn top dls) cns
def ob (s : PySem.W.SharedT) : He.AlD × Bool := obsM 4 (mkFa dls frs) (mkFn top dls) cns (HandSHeadRun.getT s)
theorem ob_eq (s : PySem.W.SharedT) : ob s = hk.obs s.abs := obsM_eq (HandSHeadRun.getT_eq s)
abbrev loose : List Str := (["TellError", "LimitError", "InvalidLine", "TooMany", "MOST_AMOUNT", "is_integer", "is_count", "is_amount", "is_rising", "is_tuple_of", "is_sum_of", "MOST_INSTRUCTIONS", "MOST_MARK", "MOST_SLOTS", "MOST_SUMS", "ENDS", "TO_ALONE", "WITH_SUMS", "is_below", "are_sums", "is_instruction", "is_line", "want_line", "HEAD", "FIRST", "MOST_BYTES", "NOTHING", "PLAIN_WORDS", "TO_WORDS", "count_bytes"] : List Str) ++ (["integer_bytes", "sum_bytes", "sums_bytes", "plain_bytes", "tail_bytes", "sizes_of", "places_by", "too_far", "longs_by", "made_by", "want_size", "code_of_line", "positions", "longs", "_law_pot", "_law_draw", "_law_pick", "_law_number", "_law_sum", "_law_instruction", "_law_line", "_law_count", "_law_integer", "_law_sum_bytes", "_law_parts", "_law_packed", "_law_grown", "_law_least", "_law_same", "_law_right"] : List Str)
theorem run (w : World) : HandSHeadRun.RunEq R (PySem.W.view R.prog [65]) hk ob 6000 loose w := by
  intro os
  kernel_rfl
end
end DL.k63
open PySem PySem.W PySem.Calls PyProof.Rows
theorem PySem.Challenge.cw_knownstops_k63_codes_of_lines_holds : PySem.Challenge.rw_knownstops_k63_codes_of_lines.Holds := by
  w_on; o_law
  refine HandSHeadRun.head_any (r := DL.k63.R) (q := view DL.k63.R.prog [65]) (H := DL.k63.hk) (ob := DL.k63.ob) (M := 6000) (loose := DL.k63.loose) (d := HandSHeadRun.topDef DL.k63.R.prog 65) (kwd := []) DL.k63.ob_eq
    (by kernel_rfl) (fun s => by kernel_rfl) DL.k63.run (by kernel_rfl) (by kernel_rfl) (by kernel_rfl) (by rfl) (by first | assumption | decide +kernel) (by decide +kernel) ⟨rfl, rfl, rfl, rfl, rfl, by decide +kernel⟩ ?hw ?hc
  case hw => w_witness2
  case hc =>
    refine DL.walkD (l := PySem.Challenge.rw_knownstops_k63_codes_of_lines) (n := 63) (k := 17) (x := "script") (F := DL.k63.F_law) rfl (by decide) (by kernel_rfl) ⟨rfl, by decide, by decide⟩ ?F DL.k63.law_true
    intro w mg fa h Y G hmg0
    have hmg : mg ("law" : PySem.Str) = some (.ref fa) := by
      have e : (HandSHeadRun.topDef DL.k63.R.prog 65).name = ("law" : PySem.Str) := by kernel_rfl
      rw [← e]
      exact hmg0
    exact DL.lawF (i := 42) (j := 65) (x := "law") rfl (fun K mg base c => DL.k63.d_law c) (fun _ _ _ _ _ _ us hl => match us, hl with | [_], _ => rfl) Y G hmg

