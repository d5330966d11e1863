import PyProof.Rows.All
import Wide.All
import OpenK.AllK
import Wide.FinOn
import HandS.ForMost
import HandS.Exc
import HandS.ExcOwn
import HandS.TryOnly
import HandS.TryMany
import HandS.WordsExc
import HandS.Lambda
import HandS.IsInst
import HandS.Style
import HandS.Wide
import HandS.Gcd
import HandS.Flow
import HandS.TupAny
import HandS.Deep
import HandS.TupMul
import PyProof.Rows.IntBool
import PyProof.Rows.RuleB_bool
import HandS.Text
import HandS.Iter
import HandS.Comp
import HandS.ExcValueHot
import HandS.Defaults
import HandS.HeadHook4
import HandS.HeadWalk
import HandS.Head2
import HandS.Zip
import HandS.TupLe
import HandS.SortRule
import KE.KEqDict
import HandS.Dict
import HandS.SortInts
import HandS.Conv
import HandS.TupSets
import PySem.Challenge.RW_nearplain_k62_values_on_surfaces
import KE.KStateDown
import HandS.Head0
import HandS.Head1
import HandS.Head3
set_option Elab.async false
set_option linter.all false
set_option maxRecDepth 100000
set_option maxHeartbeats 4000000
/-! DX, part 1: plain data, how the heap bears it, what a state is. -/
namespace Dx
open PySem PySem.Spec PyProof.Rows L2

/-- plain data: tuples and lists that nobody changes are values; what is changed stands in the store -/
inductive D where
  | non | bl (b : Bool) | int (i : Int) | str (s : Str) | tup (ds : List D) | lst (ds : List D) | obj (n : Nat) | ty (n : String) | gl (x : Str) | exv (n : Nat)
  deriving Inhabited
/-- what stands in the store -/
inductive Ob where
  | dead | lst (ds : List D) | dct (kvs : List (List Key × D))
  deriving Inhabited
abbrev Store := List Ob
abbrev Env := List (Option D)
/-- where the store's objects stand (none: dead); the lists that comprehensions are filling -/
structure Mp where
  sl : List (Option Addr)
  hid : List Addr := []
/-- an exception: its class's name, its fields -/
structure Ex where
  cls : Str
  fs : List (Str × D) := []

def Live (m : Mp) (a : Addr) : Prop := (∃ n : Nat, m.sl[n]? = some (some a)) ∨ a ∈ m.hid
def KL (K : PySem.W.Frag) (a : Addr) (xs : List V) : Prop := ∃ (its : List Value) (n : Nat), K.lookup a = some { cls := .type "list", data := .seq its.toArray n } ∧ its.length ≤ sizeLine ∧ Vals xs its
/-- a list that is to be read -/
def SqX (K : PySem.W.Frag) (H : Hp) (a : Addr) (xs : List V) : Prop := Rd H a (.lst xs) ∨ KL K a xs
theorem SqX.sq {K : PySem.W.Frag} {H : Hp} {a : Addr} {xs : List V} (h : SqX K H a xs) : SqL K H a xs := by
  rcases h with h | ⟨its, n, h1, h2, h3⟩
  · exact .inl h
  · exact .inr ⟨_, its.toArray, n, h1, rfl, rfl, rfl, by simpa using h2, by simpa using h3⟩
theorem listX {X : Cx} {pins : List (Addr × Obj)} {σ : L2.St} {H : Hp} {s : Shared} {a : Addr} {xs : List V} (I : Inv X pins σ H s) (h : SqX X.K H a xs) :
    xs.length ≤ sizeLine ∧ ∃ (its : List Value) (n : Nat), Vals xs its ∧ xs.length = its.length ∧ s.heap.get? a = some { cls := .type "list", data := .seq its.toArray n } := by
  rcases h with h | ⟨its, n, h1, h2, h3⟩
  · obtain ⟨z, its, n, r, e⟩ := h.ok I.hok
    exact ⟨z, its, n, r, r.length, e⟩
  · exact ⟨by rw [h3.length]; exact h2, its, n, h3, h3.length, I.kIn a _ h1⟩

/-- the law's ground: the written part and the module's names -/
structure Gr where
  K : PySem.W.Frag
  mg : Str → Option Value
  T : List (Addr × Str) := []

mutual
inductive Rep (G : Gr) (m : Mp) (H : Hp) : V → D → Prop
  | non : Rep G m H .non .non
  | bl (b : Bool) : Rep G m H (.bl b) (.bl b)
  | int (i : Int) : Rep G m H (.int i) (.int i)
  | str (s : Str) : Rep G m H (.str s) (.str s)
  | tup {a : Addr} {xs : List V} {ds : List D} : SqT G.K H a xs → RepAll G m H xs ds → Rep G m H (.ref a) (.tup ds)
  | lst {a : Addr} {xs : List V} {ds : List D} : Rd H a (.lst xs) → ¬ Live m a → RepAll G m H xs ds → Rep G m H (.ref a) (.lst ds)
  | klst {a : Addr} {xs : List V} {ds : List D} : KL G.K a xs → RepAll G m H xs ds → Rep G m H (.ref a) (.lst ds)
  | obj {n : Nat} {a : Addr} : n < m.sl.length → (∀ a', m.sl[n]? = some (some a') → a' = a) → Rep G m H (.ref a) (.obj n)
  | ty (n : String) : Rep G m H (.ty n) (.ty n)
  | gl {x : Str} {a : Addr} : G.mg x = some (.ref a) → Rep G m H (.ref a) (.gl x)
  | exv {a : Addr} : Rep G m H (.ref a) (.exv a)
inductive RepAll (G : Gr) (m : Mp) (H : Hp) : List V → List D → Prop
  | nil : RepAll G m H [] []
  | cons {v : V} {vs : List V} {d : D} {ds : List D} : Rep G m H v d → RepAll G m H vs ds → RepAll G m H (v :: vs) (d :: ds)
end

/-- nothing is known at a, but perhaps a table -/
def NoT (H : Hp) (a : Addr) : Prop := ∀ o, H a = some o → ∃ ps, o = .tbl ps
theorem NoT.none {H : Hp} {a : Addr} (h : H a = none) : NoT H a := fun o e => by rw [h] at e; cases e
theorem NoT.ne {H H' : Hp} {b : Addr} (e : H' b = H b) (h : NoT H' b) : NoT H b := fun o q => h o (e.trans q)
/-- what stays from one state to a later one -/
structure Ext (m : Mp) (H : Hp) (m' : Mp) (H' : Hp) : Prop where
  len : m.sl.length ≤ m'.sl.length
  old : ∀ (n : Nat) a, n < m.sl.length → m'.sl[n]? = some (some a) → m.sl[n]? = some (some a)
  new : ∀ (n : Nat) a, m.sl.length ≤ n → m'.sl[n]? = some (some a) → NoT H a
  keep : ∀ b o, H b = some o → ¬ Live m b → (∀ ps, o ≠ .tbl ps) → H' b = some o
  there : ∀ b, NoT H' b → NoT H b
  hid : m'.hid = m.hid
  hidk : ∀ a ∈ m.hid, H' a = H a
theorem Ext.refl (m : Mp) (H : Hp) : Ext m H m H := ⟨Nat.le_refl _, fun _ _ _ h => h, fun n a h e => (by rw [List.getElem?_eq_none (by omega)] at e; cases e), fun _ _ h _ _ => h, fun _ h => h, rfl, fun _ _ => rfl⟩
theorem Ext.notLive {m m' : Mp} {H H' : Hp} (e : Ext m H m' H') {b : Addr} {o : HO} (h : H b = some o) (n : ¬ Live m b) (t : ∀ ps, o ≠ .tbl ps) : ¬ Live m' b := by
  rintro (⟨i, hi⟩ | hi)
  · by_cases hl : i < m.sl.length
    · exact n (.inl ⟨i, e.old i b hl hi⟩)
    · obtain ⟨ps, z⟩ := e.new i b (by omega) hi o h
      exact t ps z
  · rw [e.hid] at hi
    exact n (.inr hi)
theorem Ext.trans {m m1 m2 : Mp} {H H1 H2 : Hp} (a : Ext m H m1 H1) (b : Ext m1 H1 m2 H2) : Ext m H m2 H2 where
  len := Nat.le_trans a.len b.len
  old := fun n x hn h => a.old n x hn (b.old n x (Nat.lt_of_lt_of_le hn a.len) h)
  new := fun n x hn h => by
    by_cases hl : n < m1.sl.length
    · exact a.new n x hn (b.old n x hl h)
    · exact a.there x (b.new n x (by omega) h)
  keep := fun x o h n t => b.keep x o (a.keep x o h n t) (a.notLive h n t) t
  there := fun x h => a.there x (b.there x h)
  hid := b.hid.trans a.hid
  hidk := fun x hx => (b.hidk x (by rw [a.hid]; exact hx)).trans (a.hidk x hx)

section
variable {G : Gr} {m m' : Mp} {H H' : Hp}
theorem Ext.rd {a : Addr} {u : HO} (e : Ext m H m' H') (h : Rd H a u) (n : ¬ Live m a) (t : ∀ ps, u ≠ .tbl ps) : Rd H' a u := by
  rcases h with h | ⟨o, h⟩
  · exact .inl (e.keep _ _ h n t)
  · exact .inr ⟨o, e.keep _ _ h n (fun ps z => by cases z)⟩

/-- a dict's entries: keys are tuples of ints and texts -/
def keyI : Key → D
  | .inl i => .int i
  | .inr x => .str x
def keyT (k : List Key) : D := .tup (k.map keyI)
inductive DctR (G : Gr) (m : Mp) (H : Hp) : List (List Key × V) → List (List Key × D) → Prop
  | nil : DctR G m H [] []
  | cons {k : List Key} {v : V} {d : D} {ws : List (List Key × V)} {kvs : List (List Key × D)} : Rep G m H v d → DctR G m H ws kvs → DctR G m H ((k, v) :: ws) ((k, d) :: kvs)
/-- what stands at a live place -/
def LiveO (o : HO) : Prop := (∃ xs, o = .lst xs) ∨ ∃ ws, o = .dT ws
/-- the store: live places hold what the store says -/
def ObR (G : Gr) (m : Mp) (H : Hp) (a : Addr) : Ob → Prop
  | .dead => False
  | .lst ds => ∃ xs, H a = some (.lst xs) ∧ RepAll G m H xs ds
  | .dct kvs => ∃ ws, H a = some (.dT ws) ∧ DctR G m H ws kvs
structure SR (G : Gr) (m : Mp) (S : Store) (H : Hp) : Prop where
  len : S.length = m.sl.length
  inj : ∀ (i j : Nat) a, m.sl[i]? = some (some a) → m.sl[j]? = some (some a) → i = j
  at_ : ∀ (n : Nat) a o, m.sl[n]? = some (some a) → S[n]? = some o → ObR G m H a o
  tabs : LamX.Tabs G.T H
  dead : ∀ n : Nat, m.sl[n]? = some none → S[n]? = some .dead
  hidt : ∀ a ∈ m.hid, (∃ xs, H a = some (.lst xs)) ∧ ∀ n : Nat, m.sl[n]? ≠ some (some a)
/-- the tables stay where nothing is written but a list -/
theorem tabs_but {T : List (Addr × Str)} {H H' : Hp} (t : LamX.Tabs T H) (e : ∀ b o, H b = some o → ¬ LiveO o → H' b = some o) : LamX.Tabs T H' := fun p hp => by
  obtain ⟨ps, h1, h2, h3⟩ := t p hp
  refine ⟨ps, e _ _ h1 (fun z => by rcases z with ⟨xs, z⟩ | ⟨xs, z⟩ <;> cases z), h2, fun pos cv hc => ?_⟩
  obtain ⟨c, e1, e2⟩ := h3 pos cv hc
  exact ⟨c, e1, e _ _ e2 (fun z => by rcases z with ⟨xs, z⟩ | ⟨xs, z⟩ <;> (unfold LamX.CodeO at z; cases z))⟩
theorem SR.tracked (sr : SR G m S H) {a : Addr} (h : Live m a) : ∃ o, H a = some o ∧ LiveO o := by
  rcases h with ⟨n, hn⟩ | h
  rotate_left
  · obtain ⟨⟨xs, e⟩, _⟩ := sr.hidt a h
    exact ⟨_, e, .inl ⟨xs, rfl⟩⟩
  have hl : n < S.length := by rw [sr.len]; exact (List.getElem?_eq_some_iff.mp hn).1
  obtain ⟨o, ho⟩ : ∃ o, S[n]? = some o := ⟨S[n], List.getElem?_eq_getElem hl⟩
  have z := sr.at_ n a o hn ho
  cases o with
  | dead => exact z.elim
  | lst ds => obtain ⟨xs, h, _⟩ := z; exact ⟨_, h, .inl ⟨xs, rfl⟩⟩
  | dct kvs => obtain ⟨xs, h, _⟩ := z; exact ⟨_, h, .inr ⟨xs, rfl⟩⟩
/-- no tuple is live -/
theorem SR.notTup (sr : SR G m S H) {a : Addr} {xs : List V} (h : Rd H a (.tup xs)) : ¬ Live m a := fun l => by
  obtain ⟨o', e, z⟩ := sr.tracked l
  rcases h with h | ⟨o, h⟩ <;> (rw [h] at e; cases e; rcases z with ⟨_, z⟩ | ⟨_, z⟩ <;> cases z)
theorem SR.notFrz (sr : SR G m S H) {a : Addr} {o : Obj} {u : HO} (h : H a = some (.frz o u)) : ¬ Live m a := fun l => by
  obtain ⟨o', e, z⟩ := sr.tracked l
  rw [h] at e; cases e; rcases z with ⟨_, z⟩ | ⟨_, z⟩ <;> cases z
/-- an address without content is not live -/
theorem SR.notNone (sr : SR G m S H) {a : Addr} (h : H a = none) : ¬ Live m a := fun l => by
  obtain ⟨o', e, z⟩ := sr.tracked l
  rw [h] at e; cases e
end

/-- what keeps the meaning of data -/
structure Ext0 (m : Mp) (H : Hp) (m' : Mp) (H' : Hp) : Prop where
  len : m.sl.length ≤ m'.sl.length
  old : ∀ (n : Nat) a, n < m.sl.length → m'.sl[n]? = some (some a) → m.sl[n]? = some (some a)
  keep : ∀ b o, H b = some o → ¬ Live m b → (∀ ps, o ≠ .tbl ps) → H' b = some o
  nl : ∀ b o, H b = some o → ¬ Live m b → (∀ ps, o ≠ .tbl ps) → ¬ Live m' b
theorem Ext.to0 {m m' : Mp} {H H' : Hp} (e : Ext m H m' H') : Ext0 m H m' H' := ⟨e.len, e.old, e.keep, fun _ _ h n t => e.notLive h n t⟩
theorem Ext0.rd {m m' : Mp} {H H' : Hp} {a : Addr} {u : HO} (e : Ext0 m H m' H') (h : Rd H a u) (n : ¬ Live m a) (t : ∀ ps, u ≠ .tbl ps) : Rd H' a u ∧ ¬ Live m' a := by
  rcases h with h | ⟨o, h⟩
  · exact ⟨.inl (e.keep _ _ h n t), e.nl _ _ h n t⟩
  · exact ⟨.inr ⟨o, e.keep _ _ h n (fun ps z => by cases z)⟩, e.nl _ _ h n (fun ps z => by cases z)⟩
mutual
theorem Rep.mono0 {G : Gr} {m m' : Mp} {S : Store} {H H' : Hp} (sr : SR G m S H) (e : Ext0 m H m' H') : ∀ {v : V} {d : D}, Rep G m H v d → Rep G m' H' v d
  | _, _, .non => .non
  | _, _, .bl b => .bl b
  | _, _, .int i => .int i
  | _, _, .str s => .str s
  | _, _, .tup h r => .tup (by
      rcases h with h | h
      · exact .inl (e.rd h (sr.notTup h) (fun ps z => by cases z)).1
      · exact .inr h) (RepAll.mono0 sr e r)
  | _, _, .lst h n r => .lst (e.rd h n (fun ps z => by cases z)).1 (e.rd h n (fun ps z => by cases z)).2 (RepAll.mono0 sr e r)
  | _, _, .klst h r => .klst h (RepAll.mono0 sr e r)
  | _, _, .obj h1 h2 => .obj (Nat.lt_of_lt_of_le h1 e.len) (fun a' h => h2 a' (e.old _ _ h1 h))
  | _, _, .ty n => .ty n
  | _, _, .gl h => .gl h
  | _, _, .exv => .exv
theorem RepAll.mono0 {G : Gr} {m m' : Mp} {S : Store} {H H' : Hp} (sr : SR G m S H) (e : Ext0 m H m' H') : ∀ {xs : List V} {ds : List D}, RepAll G m H xs ds → RepAll G m' H' xs ds
  | _, _, .nil => .nil
  | _, _, .cons a r => .cons (Rep.mono0 sr e a) (RepAll.mono0 sr e r)
end
theorem Rep.mono {G : Gr} {m m' : Mp} {S : Store} {H H' : Hp} (sr : SR G m S H) (e : Ext m H m' H') {v : V} {d : D} (r : Rep G m H v d) : Rep G m' H' v d := r.mono0 sr e.to0
theorem RepAll.mono {G : Gr} {m m' : Mp} {S : Store} {H H' : Hp} (sr : SR G m S H) (e : Ext m H m' H') {xs : List V} {ds : List D} (r : RepAll G m H xs ds) : RepAll G m' H' xs ds := r.mono0 sr e.to0
theorem DctR.mono0 {G : Gr} {m m' : Mp} {S : Store} {H H' : Hp} (sr : SR G m S H) (e : Ext0 m H m' H') : ∀ {ws : List (List Key × V)} {kvs : List (List Key × D)}, DctR G m H ws kvs → DctR G m' H' ws kvs
  | _, _, .nil => .nil
  | _, _, .cons a r => .cons (a.mono0 sr e) (DctR.mono0 sr e r)
theorem DctR.mono {G : Gr} {m m' : Mp} {S : Store} {H H' : Hp} (sr : SR G m S H) (e : Ext m H m' H') {ws : List (List Key × V)} {kvs : List (List Key × D)} (r : DctR G m H ws kvs) : DctR G m' H' ws kvs := r.mono0 sr e.to0
theorem DctR.length {G : Gr} {m : Mp} {H : Hp} : ∀ {ws : List (List Key × V)} {kvs : List (List Key × D)}, DctR G m H ws kvs → ws.length = kvs.length
  | _, _, .nil => rfl
  | _, _, .cons _ r => by simp [DctR.length r]
theorem RepAll.length {G : Gr} {m : Mp} {H : Hp} : ∀ {xs : List V} {ds : List D}, RepAll G m H xs ds → xs.length = ds.length
  | _, _, .nil => rfl
  | _, _, .cons _ r => by simp [RepAll.length r]
theorem RepAll.get {G : Gr} {m : Mp} {H : Hp} : ∀ {xs : List V} {ds : List D} {i : Nat} {d : D}, RepAll G m H xs ds → ds[i]? = some d → ∃ v, xs[i]? = some v ∧ Rep G m H v d
  | _, _, 0, _, .cons a _, e => by simp at e; subst e; exact ⟨_, rfl, a⟩
  | _, _, i + 1, _, .cons _ r, e => by
    obtain ⟨v, h1, h2⟩ := RepAll.get (i := i) r (by simpa using e)
    exact ⟨v, by simpa using h1, h2⟩
theorem RepAll.getV {G : Gr} {m : Mp} {H : Hp} : ∀ {xs : List V} {ds : List D} {i : Nat} {v : V}, RepAll G m H xs ds → xs[i]? = some v → ∃ d, ds[i]? = some d ∧ Rep G m H v d
  | _, _, 0, _, .cons a _, e => by simp at e; subst e; exact ⟨_, rfl, a⟩
  | _, _, i + 1, _, .cons _ r, e => by
    obtain ⟨v, h1, h2⟩ := RepAll.getV (i := i) r (by simpa using e)
    exact ⟨v, by simpa using h1, h2⟩
theorem RepAll.append {G : Gr} {m : Mp} {H : Hp} : ∀ {xs ys : List V} {ds es : List D}, RepAll G m H xs ds → RepAll G m H ys es → RepAll G m H (xs ++ ys) (ds ++ es)
  | _, _, _, _, .nil, s => s
  | _, _, _, _, .cons a r, s => .cons a (RepAll.append r s)
theorem RepAll.take {G : Gr} {m : Mp} {H : Hp} : ∀ {xs : List V} {ds : List D} (n : Nat), RepAll G m H xs ds → RepAll G m H (xs.take n) (ds.take n)
  | _, _, 0, _ => .nil
  | _, _, _ + 1, .nil => .nil
  | _, _, n + 1, .cons a r => .cons a (RepAll.take n r)
theorem RepAll.drop {G : Gr} {m : Mp} {H : Hp} : ∀ {xs : List V} {ds : List D} (n : Nat), RepAll G m H xs ds → RepAll G m H (xs.drop n) (ds.drop n)
  | _, _, 0, r => r
  | _, _, _ + 1, .nil => .nil
  | _, _, n + 1, .cons _ r => RepAll.drop n r
theorem RepAll.set {G : Gr} {m : Mp} {H : Hp} {v : V} {d : D} (q : Rep G m H v d) : ∀ {xs : List V} {ds : List D} (n : Nat), RepAll G m H xs ds → RepAll G m H (xs.set n v) (ds.set n d)
  | _, _, _, .nil => .nil
  | _, _, 0, .cons _ r => .cons q r
  | _, _, n + 1, .cons a r => .cons a (RepAll.set q n r)
theorem RepAll.reverse {G : Gr} {m : Mp} {H : Hp} : ∀ {xs : List V} {ds : List D}, RepAll G m H xs ds → RepAll G m H xs.reverse ds.reverse
  | _, _, .nil => .nil
  | _, _, .cons a r => by rw [List.reverse_cons, List.reverse_cons]; exact (RepAll.reverse r).append (.cons a .nil)

/-- the frame's names -/
structure EnvR (G : Gr) (m : Mp) (H : Hp) (σ : L2.St) (τ : Env) : Prop where
  len : σ.length = τ.length
  at_ : ∀ (i : Nat) d, τ[i]? = some (some d) → ∃ v, σ[i]? = some (some v) ∧ Rep G m H v d
theorem EnvR.mono0 {G : Gr} {m m' : Mp} {S : Store} {H H' : Hp} {σ : L2.St} {τ : Env} (sr : SR G m S H) (e : Ext0 m H m' H') (r : EnvR G m H σ τ) : EnvR G m' H' σ τ :=
  ⟨r.len, fun i d h => let ⟨v, h1, h2⟩ := r.at_ i d h; ⟨v, h1, h2.mono0 sr e⟩⟩
theorem EnvR.mono {G : Gr} {m m' : Mp} {S : Store} {H H' : Hp} {σ : L2.St} {τ : Env} (sr : SR G m S H) (e : Ext m H m' H') (r : EnvR G m H σ τ) : EnvR G m' H' σ τ :=
  ⟨r.len, fun i d h => let ⟨v, h1, h2⟩ := r.at_ i d h; ⟨v, h1, h2.mono sr e⟩⟩
theorem EnvR.set {G : Gr} {m : Mp} {H : Hp} {σ : L2.St} {τ : Env} {v : V} {d : D} (r : EnvR G m H σ τ) (q : Rep G m H v d) (i : Nat) : EnvR G m H (σ.set i (some v)) (τ.set i (some d)) := by
  refine ⟨by simp [r.len], fun j d' h => ?_⟩
  by_cases hj : i = j
  · subst hj
    by_cases hl : i < τ.length
    · rw [List.getElem?_set_self hl] at h
      cases h
      exact ⟨v, by rw [List.getElem?_set_self (by rw [r.len]; exact hl)], q⟩
    · rw [List.getElem?_eq_none (by simpa using hl)] at h; cases h
  · rw [List.getElem?_set_ne hj] at h
    obtain ⟨w, h1, h2⟩ := r.at_ j d' h
    exact ⟨w, by rw [List.getElem?_set_ne hj]; exact h1, h2⟩
theorem EnvR.unset {G : Gr} {m : Mp} {H : Hp} {σ : L2.St} {τ : Env} (r : EnvR G m H σ τ) (i : Nat) : EnvR G m H (σ.set i none) (τ.set i none) := by
  refine ⟨by simp [r.len], fun j d' h => ?_⟩
  by_cases hj : i = j
  · subst hj
    by_cases hl : i < τ.length
    · rw [List.getElem?_set_self hl] at h; cases h
    · rw [List.getElem?_eq_none (by simpa using hl)] at h; cases h
  · rw [List.getElem?_set_ne hj] at h
    obtain ⟨w, h1, h2⟩ := r.at_ j d' h
    exact ⟨w, by rw [List.getElem?_set_ne hj]; exact h1, h2⟩

/-! ### new things -/
section
variable {G : Gr} {m : Mp} {S : Store} {H : Hp}
/-- something is laid at a free place; the store stays -/
theorem NoT.upd {p b : Addr} {o : HO} {H : Hp} (hp : NoT H p) (h : NoT (L2.upd H p o) b) : NoT H b := by
  by_cases hb : b = p
  · subst hb; exact hp
  · exact h.ne (upd_ne hb)
theorem Ext.upd {p : Addr} {o : HO} (sr : SR G m S H) (hp : H p = none) : Ext m H m (L2.upd H p o) :=
  ⟨Nat.le_refl _, fun _ _ _ h => h, fun n a h e => (by rw [List.getElem?_eq_none (by omega)] at e; cases e), fun b o' h _ _ => by rw [upd_ne (ne_of_none h hp)]; exact h,
   fun b h => NoT.upd (.none hp) h, rfl, fun a ha => upd_ne (fun z => sr.notNone hp (by rw [← z]; exact .inr ha))⟩
theorem SR.ext_same {H' : Hp} (sr : SR G m S H) (e : Ext m H m H') (k : ∀ a, Live m a → H' a = H a) (tb : LamX.Tabs G.T H') : SR G m S H' := by
  refine ⟨sr.len, sr.inj, fun n a o h1 h2 => ?_, tb, sr.dead, fun a ha => ⟨by rw [k a (.inr ha)]; exact (sr.hidt a ha).1, (sr.hidt a ha).2⟩⟩
  have z := sr.at_ n a o h1 h2
  cases o with
  | dead => exact z.elim
  | lst ds => obtain ⟨xs, h, r⟩ := z; exact ⟨xs, (k a (.inl ⟨n, h1⟩)).trans h, r.mono sr e⟩
  | dct kvs => obtain ⟨xs, h, r⟩ := z; exact ⟨xs, (k a (.inl ⟨n, h1⟩)).trans h, r.mono sr e⟩
theorem SR.upd {p : Addr} {o : HO} (sr : SR G m S H) (hp : H p = none) : SR G m S (L2.upd H p o) :=
  sr.ext_same (Ext.upd sr hp) (fun a l => upd_ne (fun z => sr.notNone hp (z ▸ l))) (sr.tabs.ext fun b o e => (upd_ne (ne_of_none e hp)).trans e)
/-- a new object of the store -/
theorem get_snoc {α : Type} {l : List α} {x : α} {n : Nat} {y : α} (h : (l ++ [x])[n]? = some y) : l[n]? = some y ∨ (n = l.length ∧ y = x) := by
  by_cases hl : n < l.length
  · rw [List.getElem?_append_left hl] at h; exact .inl h
  · rw [List.getElem?_append_right (by omega)] at h
    have : n - l.length = 0 := by
      cases q : n - l.length with
      | zero => rfl
      | succ k => rw [q] at h; simp at h
    rw [this] at h
    simp at h
    exact .inr ⟨by omega, h.symm⟩
def Mp.snoc (m : Mp) (p : Addr) : Mp := ⟨m.sl ++ [some p], m.hid⟩
def Mp.kill (m : Mp) (n : Nat) : Mp := ⟨m.sl.set n none, m.hid⟩
theorem Ext.obj {p : Addr} {o : HO} (sr : SR G m S H) (hp : H p = none) : Ext m H (m.snoc p) (L2.upd H p o) where
  len := by simp [Mp.snoc]
  old := fun n a hn h => by
    have h : (m.sl ++ [some p])[n]? = _ := h
    rw [List.getElem?_append_left hn] at h; exact h
  new := fun n a hn h => by
    rcases get_snoc h with h | ⟨_, h⟩
    · rw [List.getElem?_eq_none (by omega)] at h; cases h
    · cases h; exact .none hp
  keep := fun b o' h _ _ => by rw [upd_ne (ne_of_none h hp)]; exact h
  there := fun b h => (Ext.upd (o := o) sr hp).there b h
  hid := rfl
  hidk := fun a ha => upd_ne (fun z => sr.notNone hp (by rw [← z]; exact .inr ha))
/-- what an object is, by its content -/
def ObV (G : Gr) (m : Mp) (H : Hp) (u : HO) : Ob → Prop
  | .dead => False
  | .lst ds => ∃ xs, u = .lst xs ∧ RepAll G m H xs ds
  | .dct kvs => ∃ ws, u = .dT ws ∧ DctR G m H ws kvs
theorem ObV.mono {m' : Mp} {H' : Hp} {u : HO} {ob : Ob} (sr : SR G m S H) (e : Ext m H m' H') (r : ObV G m H u ob) : ObV G m' H' u ob := by
  cases ob with
  | dead => exact r.elim
  | lst ds => obtain ⟨xs, rfl, q⟩ := r; exact ⟨xs, rfl, q.mono sr e⟩
  | dct kvs => obtain ⟨xs, rfl, q⟩ := r; exact ⟨xs, rfl, q.mono sr e⟩
theorem ObV.obR {a : Addr} {u : HO} {ob : Ob} (r : ObV G m H u ob) (h : H a = some u) : ObR G m H a ob := by
  cases ob with
  | dead => exact r.elim
  | lst ds => obtain ⟨xs, rfl, q⟩ := r; exact ⟨xs, h, q⟩
  | dct kvs => obtain ⟨xs, rfl, q⟩ := r; exact ⟨xs, h, q⟩
theorem SR.objG {p : Addr} {u : HO} {ob : Ob} (sr : SR G m S H) (hp : H p = none) (r : ObV G m H u ob) : SR G (m.snoc p) (S ++ [ob]) (L2.upd H p u) := by
  have e : Ext m H (m.snoc p) (L2.upd H p u) := Ext.obj sr hp
  refine ⟨by simp [sr.len, Mp.snoc], fun i j a h1 h2 => ?_, fun n a o h1 h2 => ?_, sr.tabs.ext fun b o e => (upd_ne (ne_of_none e hp)).trans e, fun n h => ?_, fun a ha => ⟨?_, fun n h => ?_⟩⟩
  · rcases get_snoc h1 with h1 | ⟨e1, h1⟩ <;> rcases get_snoc h2 with h2 | ⟨e2, h2⟩
    · exact sr.inj i j a h1 h2
    · cases h2; exact absurd (.inl ⟨i, h1⟩) (sr.notNone hp)
    · cases h1; exact absurd (.inl ⟨j, h2⟩) (sr.notNone hp)
    · omega
  · rcases get_snoc h1 with h1 | ⟨e1, h1⟩
    · have hl : n < S.length := by rw [sr.len]; exact (List.getElem?_eq_some_iff.mp h1).1
      rw [List.getElem?_append_left hl] at h2
      have z := sr.at_ n a o h1 h2
      have na : a ≠ p := fun z => sr.notNone hp (z ▸ .inl ⟨n, h1⟩)
      cases o with
      | dead => exact z.elim
      | lst es => obtain ⟨ys, h, q⟩ := z; exact ⟨ys, (upd_ne na).trans h, q.mono sr e⟩
      | dct kvs => obtain ⟨ys, h, q⟩ := z; exact ⟨ys, (upd_ne na).trans h, q.mono sr e⟩
    · cases h1
      rw [e1, ← sr.len, List.getElem?_append_right (Nat.le_refl _)] at h2
      simp at h2
      subst h2
      exact (r.mono sr e).obR upd_same
  · rcases get_snoc h with h | ⟨_, h⟩
    · have hl : n < S.length := by rw [sr.len]; exact (List.getElem?_eq_some_iff.mp h).1
      rw [List.getElem?_append_left hl]
      exact sr.dead n h
    · cases h
  · have ha : a ∈ m.hid := ha
    rw [upd_ne (fun z => sr.notNone hp (by rw [← z]; exact .inr ha))]
    exact (sr.hidt a ha).1
  · rcases get_snoc h with h | ⟨_, h⟩
    · exact (sr.hidt a ha).2 n h
    · cases h; exact sr.notNone hp (.inr ha)
theorem SR.obj {p : Addr} {xs : List V} {ds : List D} (sr : SR G m S H) (hp : H p = none) (r : RepAll G m H xs ds) : SR G (m.snoc p) (S ++ [.lst ds]) (L2.upd H p (.lst xs)) := sr.objG hp ⟨xs, rfl, r⟩
theorem rep_obj {p : Addr} {H' : Hp} : Rep G (m.snoc p) H' (.ref p) (.obj m.sl.length) := .obj (by simp [Mp.snoc]) (fun a' h => by simp [Mp.snoc] at h; exact h.symm)
/-- a list of the store is written -/
theorem Ext.write {n : Nat} {a : Addr} {o : HO} (sr : SR G m S H) (h : m.sl[n]? = some (some a)) (ht : ∀ ps, o ≠ .tbl ps := by intro ps z; cases z) : Ext m H m (L2.upd H a o) :=
  ⟨Nat.le_refl _, fun _ _ _ h => h, fun i b hi e => (by rw [List.getElem?_eq_none (by omega)] at e; cases e), fun b o' hb nl _ => (by rw [upd_ne (fun z => nl (by rw [z]; exact .inl ⟨n, h⟩))]; exact hb),
   fun b hb => (by
    by_cases e : b = a
    · subst e
      obtain ⟨zs, hz, _⟩ := sr.tracked (.inl ⟨n, h⟩)
      obtain ⟨ps, z⟩ := hb o upd_same
      exact absurd z (ht ps)
    · exact hb.ne (upd_ne e)), rfl, fun b hb => upd_ne (fun z => (sr.hidt b hb).2 n (by rw [z]; exact h))⟩
theorem SR.writeG {n : Nat} {a : Addr} {u : HO} {ob : Ob} (sr : SR G m S H) (h : m.sl[n]? = some (some a)) (r : ObV G m H u ob) (ht : ∀ ps, u ≠ .tbl ps) : SR G m (S.set n ob) (L2.upd H a u) := by
  have e : Ext m H m (L2.upd H a u) := Ext.write sr h ht
  obtain ⟨zs, hz, hz2⟩ := sr.tracked (.inl ⟨n, h⟩)
  refine ⟨by simp [sr.len], sr.inj, fun i b o h1 h2 => ?_, tabs_but sr.tabs fun b o hb nl => (upd_ne (fun z => nl (by rw [z, hz] at hb; exact Option.some.inj hb ▸ hz2))).trans hb, fun i hi => (by
    rw [List.getElem?_set_ne (by rintro rfl; rw [h] at hi; cases hi)]
    exact sr.dead i hi), fun b hb => ⟨by rw [e.hidk b hb]; exact (sr.hidt b hb).1, (sr.hidt b hb).2⟩⟩
  by_cases hi : n = i
  · subst hi
    rw [h] at h1; cases h1
    have hl : n < S.length := by rw [sr.len]; exact (List.getElem?_eq_some_iff.mp h).1
    rw [List.getElem?_set_self hl] at h2
    cases h2
    exact (r.mono sr e).obR upd_same
  · rw [List.getElem?_set_ne hi] at h2
    have z := sr.at_ i b o h1 h2
    have nb : b ≠ a := fun z => hi (sr.inj n i a h (z ▸ h1))
    cases o with
    | dead => exact z.elim
    | lst es => obtain ⟨ys, h, q⟩ := z; exact ⟨ys, (upd_ne nb).trans h, q.mono sr e⟩
    | dct kvs => obtain ⟨ys, h, q⟩ := z; exact ⟨ys, (upd_ne nb).trans h, q.mono sr e⟩
theorem SR.write {n : Nat} {a : Addr} {xs : List V} {ds : List D} (sr : SR G m S H) (h : m.sl[n]? = some (some a)) (r : RepAll G m H xs ds) : SR G m (S.set n (.lst ds)) (L2.upd H a (.lst xs)) := sr.writeG h ⟨xs, rfl, r⟩ (fun _ z => nomatch z)
/-- a list of the store is told as a value; its place is dead from then on -/
theorem Ext.frozen {n : Nat} : Ext m H (m.kill n) H where
  len := by simp [Mp.kill]
  old := fun i a hi h => by
    have h : (m.sl.set n none)[i]? = _ := h
    by_cases e : n = i
    · subst e; rw [List.getElem?_set_self (by simpa using hi)] at h; cases h
    · rw [List.getElem?_set_ne e] at h; exact h
  new := fun i a hi h => by
    have h : (m.sl.set n none)[i]? = _ := h
    rw [List.getElem?_eq_none (by simpa using hi)] at h; cases h
  keep := fun _ _ h _ _ => h
  there := fun _ h => h
  hid := rfl
  hidk := fun _ _ => rfl
theorem kill_back {n i : Nat} {a : Addr} (h : (m.kill n).sl[i]? = some (some a)) : i ≠ n ∧ m.sl[i]? = some (some a) := by
  have h : (m.sl.set n none)[i]? = _ := h
  by_cases e : n = i
  · subst e
    by_cases hl : n < m.sl.length
    · rw [List.getElem?_set_self hl] at h; cases h
    · rw [List.getElem?_eq_none (by simpa using hl)] at h; cases h
  · rw [List.getElem?_set_ne e] at h; exact ⟨fun z => e z.symm, h⟩
theorem SR.frozen {n : Nat} (sr : SR G m S H) : SR G (m.kill n) (S.set n .dead) H := by
  refine ⟨by simp [sr.len, Mp.kill], fun i j a h1 h2 => sr.inj i j a (kill_back h1).2 (kill_back h2).2, fun i a o h1 h2 => ?_, sr.tabs, fun i hi => ?_, fun a ha => ⟨(sr.hidt a ha).1, fun i h => (sr.hidt a ha).2 i (kill_back h).2⟩⟩
  · obtain ⟨ne, h1⟩ := kill_back h1
    rw [List.getElem?_set_ne (Ne.symm ne)] at h2
    have z := sr.at_ i a o h1 h2
    cases o with
    | dead => exact z.elim
    | lst es => obtain ⟨ys, h, q⟩ := z; exact ⟨ys, h, q.mono sr Ext.frozen⟩
    | dct kvs => obtain ⟨ys, h, q⟩ := z; exact ⟨ys, h, q.mono sr Ext.frozen⟩
  · have hi : (m.sl.set n none)[i]? = _ := hi
    by_cases e : n = i
    · subst e
      by_cases hl : n < S.length
      · rw [List.getElem?_set_self hl]
      · rw [List.getElem?_eq_none (by simp; rw [← sr.len]; omega)] at hi; cases hi
    · rw [List.getElem?_set_ne e] at hi ⊢
      exact sr.dead i hi
theorem rep_frozen {n : Nat} {a : Addr} {ds : List D} (sr : SR G m S H) (h : m.sl[n]? = some (some a)) (hs : S[n]? = some (.lst ds)) : Rep G (m.kill n) H (.ref a) (.lst ds) := by
  obtain ⟨xs, hx, r⟩ := sr.at_ n a _ h hs
  refine .lst (.inl hx) (fun l => ?_) (r.mono sr Ext.frozen)
  rcases l with ⟨i, hi⟩ | hi
  · obtain ⟨ne, h1⟩ := kill_back hi
    exact ne (sr.inj n i a h h1).symm
  · exact (sr.hidt a hi).2 n h
/-! a list that a comprehension fills -/
def Mp.hide (m : Mp) (p : Addr) : Mp := ⟨m.sl, p :: m.hid⟩
def Mp.hidAs (m : Mp) (l : List Addr) : Mp := ⟨m.sl, l⟩
theorem Ext0.hide {p : Addr} {o : HO} (hp : H p = none) : Ext0 m H (m.hide p) (L2.upd H p o) := by
  refine ⟨Nat.le_refl _, fun _ _ _ h => h, fun b o' h _ _ => (upd_ne (ne_of_none h hp)).trans h, fun b o' h n _ l => n ?_⟩
  rcases l with l | l
  · exact .inl l
  · rcases List.mem_cons.mp l with z | l
    · rw [z, hp] at h; cases h
    · exact .inr l
theorem SR.hide {p : Addr} (sr : SR G m S H) (hp : H p = none) : SR G (m.hide p) S (L2.upd H p (.lst [])) := by
  refine ⟨sr.len, sr.inj, fun n a o h1 h2 => ?_, sr.tabs.ext fun b o e => (upd_ne (ne_of_none e hp)).trans e, sr.dead, fun a ha => ?_⟩
  · have h1 : m.sl[n]? = some (some a) := h1
    have na : a ≠ p := fun z => sr.notNone hp (z ▸ .inl ⟨n, h1⟩)
    have z := sr.at_ n a o h1 h2
    cases o with
    | dead => exact z.elim
    | lst es => obtain ⟨ys, h, q⟩ := z; exact ⟨ys, (upd_ne na).trans h, q.mono0 sr (Ext0.hide hp)⟩
    | dct kvs => obtain ⟨ys, h, q⟩ := z; exact ⟨ys, (upd_ne na).trans h, q.mono0 sr (Ext0.hide hp)⟩
  · rcases List.mem_cons.mp ha with rfl | ha
    · exact ⟨⟨[], upd_same⟩, fun n h => sr.notNone hp (.inl ⟨n, h⟩)⟩
    · rw [upd_ne (fun z => sr.notNone hp (by rw [← z]; exact .inr ha))]
      exact sr.hidt a ha
/-- a hidden list is filled -/
theorem Ext0.fill {p : Addr} {o : HO} (hp : p ∈ m.hid) : Ext0 m H m (L2.upd H p o) :=
  ⟨Nat.le_refl _, fun _ _ _ h => h, fun b o' h n _ => (upd_ne (fun z => n (by rw [z]; exact .inr hp))).trans h, fun _ _ _ n _ => n⟩
theorem SR.fill {p : Addr} {xs : List V} (sr : SR G m S H) (hp : p ∈ m.hid) : SR G m S (L2.upd H p (.lst xs)) := by
  obtain ⟨⟨zs, hz⟩, ns⟩ := sr.hidt p hp
  refine ⟨sr.len, sr.inj, fun n a o h1 h2 => ?_, tabs_but sr.tabs fun b o hb nl => (upd_ne (fun z => nl (by rw [z, hz] at hb; exact Option.some.inj hb ▸ .inl ⟨zs, rfl⟩))).trans hb, sr.dead, fun a ha => ?_⟩
  · have na : a ≠ p := fun z => ns n (z ▸ h1)
    have z := sr.at_ n a o h1 h2
    cases o with
    | dead => exact z.elim
    | lst es => obtain ⟨ys, h, q⟩ := z; exact ⟨ys, (upd_ne na).trans h, q.mono0 sr (Ext0.fill hp)⟩
    | dct kvs => obtain ⟨ys, h, q⟩ := z; exact ⟨ys, (upd_ne na).trans h, q.mono0 sr (Ext0.fill hp)⟩
  · by_cases e : a = p
    · subst e; exact ⟨⟨xs, upd_same⟩, ns⟩
    · rw [upd_ne e]; exact sr.hidt a ha
section
variable {m0 m1 m2 : Mp} {H0 H1 H2 : Hp} {p : Addr}
/-- seen from outside: a step with the hidden list at p -/
theorem Ext.outer (a : Ext m0 H0 (m1.hidAs m0.hid) H1) (hp : H0 p = none) (hh : m1.hid = p :: m0.hid) (b : Ext m1 H1 m2 H2) : Ext m0 H0 (m2.hidAs m0.hid) H2 where
  len := Nat.le_trans a.len b.len
  old := fun n x hn h => a.old n x hn (b.old n x (Nat.lt_of_lt_of_le hn a.len) h)
  new := fun n x hn h => by
    by_cases hl : n < m1.sl.length
    · exact a.new n x hn (b.old n x hl h)
    · exact a.there x (b.new n x (by omega) h)
  keep := fun x o h n t => b.keep x o (a.keep x o h n t) (fun l => by
    rcases l with l | l
    · exact a.notLive h n t (.inl l)
    · rw [hh] at l
      rcases List.mem_cons.mp l with z | l
      · rw [z, hp] at h; cases h
      · exact n (.inr l)) t
  there := fun x h => a.there x (b.there x h)
  hid := rfl
  hidk := fun x hx => (b.hidk x (by rw [hh]; exact List.mem_cons_of_mem _ hx)).trans (a.hidk x hx)
theorem Ext.outerFill {o : HO} {S0 : Store} (sr : SR G m0 S0 H0) (a : Ext m0 H0 (m1.hidAs m0.hid) H1) (hp : H0 p = none) : Ext m0 H0 (m1.hidAs m0.hid) (L2.upd H1 p o) where
  len := a.len
  old := a.old
  new := a.new
  keep := fun x o h n t => (upd_ne (ne_of_none h hp)).trans (a.keep x o h n t)
  there := fun x h => by
    by_cases e : x = p
    · subst e; exact .none hp
    · exact a.there x (h.ne (upd_ne e))
  hid := rfl
  hidk := fun x hx => (upd_ne (fun z => sr.notNone hp (by rw [← z]; exact .inr hx))).trans (a.hidk x hx)
/-- the comprehension's end: its list is a value -/
theorem Ext0.unhide {l : List Addr} (hh : m.hid = p :: l) : Ext0 m H (m.hidAs l) H :=
  ⟨Nat.le_refl _, fun _ _ _ h => h, fun _ _ h _ _ => h, fun b _ _ n _ q => n (by
    rcases q with q | q
    · exact .inl q
    · exact .inr (by rw [hh]; exact List.mem_cons_of_mem _ q))⟩
theorem SR.unhide {l : List Addr} (sr : SR G m S H) (hh : m.hid = p :: l) : SR G (m.hidAs l) S H := by
  refine ⟨sr.len, sr.inj, fun n a o h1 h2 => ?_, sr.tabs, sr.dead, fun a ha => sr.hidt a (by rw [hh]; exact List.mem_cons_of_mem _ ha)⟩
  have z := sr.at_ n a o h1 h2
  cases o with
  | dead => exact z.elim
  | lst es => obtain ⟨ys, h, q⟩ := z; exact ⟨ys, h, q.mono0 sr (Ext0.unhide hh)⟩
  | dct kvs => obtain ⟨ys, h, q⟩ := z; exact ⟨ys, h, q.mono0 sr (Ext0.unhide hh)⟩
theorem rep_unhide {l : List Addr} {xs : List V} {ds : List D} (sr : SR G m S H) (hh : m.hid = p :: l) (hl : p ∉ l) (h : H p = some (.lst xs)) (r : RepAll G m H xs ds) : Rep G (m.hidAs l) H (.ref p) (.lst ds) := by
  refine .lst (.inl h) (fun q => ?_) (r.mono0 sr (Ext0.unhide hh))
  rcases q with ⟨n, q⟩ | q
  · exact (sr.hidt p (by rw [hh]; exact List.mem_cons_self)).2 n q
  · exact hl q
/-- .. or an object of the store -/
theorem Ext.toStore {l : List Addr} (a : Ext m0 H0 (m1.hidAs m0.hid) H1) (hp : H0 p = none) : Ext m0 H0 ((m1.hidAs m0.hid).snoc p) H1 where
  len := by
    have := a.len
    simp only [Mp.snoc, List.length_append, List.length_cons, List.length_nil]
    omega
  old := fun n x hn h => by
    have h : ((m1.hidAs m0.hid).sl ++ [some p])[n]? = _ := h
    rw [List.getElem?_append_left (Nat.lt_of_lt_of_le hn a.len)] at h
    exact a.old n x hn h
  new := fun n x hn h => by
    rcases get_snoc h with h | ⟨_, h⟩
    · exact a.new n x hn h
    · cases h; exact .none hp
  keep := a.keep
  there := a.there
  hid := rfl
  hidk := a.hidk
theorem SR.toStore {l : List Addr} {xs : List V} {ds : List D} (sr : SR G m S H) (hh : m.hid = p :: l) (hl : p ∉ l) (h : H p = some (.lst xs)) (r : RepAll G m H xs ds) : SR G ((m.hidAs l).snoc p) (S ++ [.lst ds]) H := by
  have np := (sr.hidt p (by rw [hh]; exact List.mem_cons_self)).2
  have e0 : Ext0 m H ((m.hidAs l).snoc p) H := by
    refine ⟨by simp [Mp.snoc, Mp.hidAs], fun n a hn q => ?_, fun _ _ h _ _ => h, fun b o hb n _ q => n ?_⟩
    · have q : (m.sl ++ [some p])[n]? = _ := q
      rw [List.getElem?_append_left hn] at q; exact q
    · rcases q with ⟨i, q⟩ | q
      · rcases get_snoc q with q | ⟨_, q⟩
        · exact .inl ⟨i, q⟩
        · cases q; exact .inr (by rw [hh]; exact List.mem_cons_self)
      · exact .inr (by rw [hh]; exact List.mem_cons_of_mem _ q)
  refine ⟨by simp [sr.len, Mp.snoc, Mp.hidAs], fun i j a h1 h2 => ?_, fun n a o h1 h2 => ?_, sr.tabs, fun n q => ?_, fun a ha => ⟨(sr.hidt a (by rw [hh]; exact List.mem_cons_of_mem _ ha)).1, fun n q => ?_⟩⟩
  · rcases get_snoc h1 with h1 | ⟨e1, h1⟩ <;> rcases get_snoc h2 with h2 | ⟨e2, h2⟩
    · exact sr.inj i j a h1 h2
    · cases h2; exact absurd h1 (np i)
    · cases h1; exact absurd h2 (np j)
    · omega
  · rcases get_snoc h1 with h1 | ⟨e1, h1⟩
    · have h1 : m.sl[n]? = _ := h1
      have hl' : n < S.length := by rw [sr.len]; exact (List.getElem?_eq_some_iff.mp h1).1
      rw [List.getElem?_append_left hl'] at h2
      have z := sr.at_ n a o h1 h2
      cases o with
      | dead => exact z.elim
      | lst es => obtain ⟨ys, h, q⟩ := z; exact ⟨ys, h, q.mono0 sr e0⟩
      | dct kvs => obtain ⟨ys, h, q⟩ := z; exact ⟨ys, h, q.mono0 sr e0⟩
    · cases h1
      have e1 : n = m.sl.length := e1
      rw [e1, ← sr.len, List.getElem?_append_right (Nat.le_refl _)] at h2
      simp at h2
      subst h2
      exact ⟨xs, h, r.mono0 sr e0⟩
  · rcases get_snoc q with q | ⟨_, q⟩
    · have q : m.sl[n]? = _ := q
      have hl' : n < S.length := by rw [sr.len]; exact (List.getElem?_eq_some_iff.mp q).1
      rw [List.getElem?_append_left hl']
      exact sr.dead n q
    · cases q
  · rcases get_snoc q with q | ⟨_, q⟩
    · exact (sr.hidt a (by rw [hh]; exact List.mem_cons_of_mem _ ha)).2 n q
    · cases q; exact hl ha
end
end
end Dx

set_option Elab.async false
set_option linter.all false
set_option maxRecDepth 100000
set_option maxHeartbeats 4000000
/-! DX, part 2: readings over plain data; operators. -/
namespace Dx
open PySem PySem.Spec PyProof.Rows L2

abbrev QX := Ex → Store → Prop
abbrev FG (β : Type) := Env → Store → (β → Store → Prop) → QX → Prop
abbrev F := FG D
def bindF {β γ : Type} (f : FG β) (g : β → FG γ) : FG γ := fun τ S Q E => f τ S (fun x S1 => g x τ S1 Q E) E
def retF {β : Type} (x : β) : FG β := fun _ S Q _ => Q x S
/-- a partial function's answer -/
def optF {β : Type} (o : Store → Option β) : FG β := fun _ S Q _ => match o S with
  | some d => Q d S
  | none => False

/-- the fields of an exception -/
def FldsR (G : Gr) (m : Mp) (H : Hp) : List (Str × V) → List (Str × D) → Prop
  | [], [] => True
  | (x, v) :: r, (y, d) :: s => x = y ∧ Rep G m H v d ∧ FldsR G m H r s
  | _, _ => False
structure RepX (G : Gr) (m : Mp) (H : Hp) (cls : Value) (dd : Option Addr) (ex : Ex) : Prop where
  cls : ∃ C, G.mg ex.cls = some (.ref C) ∧ cls = .ref C
  fs : ex.fs = [] ∨ ∃ da fs, dd = some da ∧ H da = some (.xd fs) ∧ FldsR G m H fs ex.fs

section
variable (G : Gr)
abbrev Rl (α β : Type) := Mp → Hp → α → β → Prop
def PostG {α β : Type} (ρ : Rl α β) (m : Mp) (H : Hp) (QD : β → Store → Prop) (Q : α → Hp → Prop) : Prop :=
  ∀ (m' : Mp) (S' : Store) (H' : Hp) (v : α) (d : β), Ext m H m' H' → SR G m' S' H' → ρ m' H' v d → QD d S' → Q v H'
def PostX (m : Mp) (H : Hp) (QE : QX) (σ : L2.St) (W : WX) : Prop :=
  ∀ (m' : Mp) (S' : Store) (H' : Hp) (cls : Value) (dd : Option Addr) (ex : Ex), Ext m H m' H' → SR G m' S' H' → RepX G m' H' cls dd ex → QE ex S' → W cls dd σ H'
def At {α β : Type} (ρ : Rl α β) (W : WX) (f : FG β) (τ : Env) (m : Mp) (S : Store) (σ : L2.St) (H : Hp) (Q : α → Hp → Prop) : Prop :=
  ∃ QD QE, SR G m S H ∧ EnvR G m H σ τ ∧ f τ S QD QE ∧ PostG G ρ m H QD Q ∧ PostX G m H QE σ W
abbrev rV : Rl V D := fun m H v d => Rep G m H v d
abbrev rB : Rl Bool Bool := fun _ _ v d => v = d
abbrev rA : Rl (List V) (List D) := fun m H v d => RepAll G m H v d
abbrev rO : Rl (Option Int) (Option Int) := fun _ _ v d => v = d
def tE (W : WX) (f : F) : TE := fun σ H Q => ∃ τ m S, At G (rV G) W f τ m S σ H Q
def tT (W : WX) (f : FG Bool) : TT := fun σ H Q => ∃ τ m S, At G rB W f τ m S σ H Q
def tA (W : WX) (f : FG (List D)) : TA := fun σ H Q => ∃ τ m S, At G (rA G) W f τ m S σ H Q
def tO (W : WX) (f : FG (Option Int)) : TO := fun σ H Q => ∃ τ m S, At G rO W f τ m S σ H Q
end

section
variable {G : Gr} {W : WX} {α β γ δ : Type} {τ : Env} {m m' : Mp} {S S' : Store} {σ : L2.St} {H H' : Hp}
theorem PostG.mono {ρ : Rl α β} {QD : β → Store → Prop} {Q : α → Hp → Prop} (p : PostG G ρ m H QD Q) (e : Ext m H m' H') : PostG G ρ m' H' QD Q := fun m2 S2 H2 v d e2 sr r q => p m2 S2 H2 v d (e.trans e2) sr r q
theorem PostX.mono {QE : QX} (p : PostX G m H QE σ W) (e : Ext m H m' H') : PostX G m' H' QE σ W := fun m2 S2 H2 c dd ex e2 sr r q => p m2 S2 H2 c dd ex (e.trans e2) sr r q
theorem At.sr {ρ : Rl α β} {f : FG β} {Q : α → Hp → Prop} (h : At G ρ W f τ m S σ H Q) : SR G m S H := let ⟨_, _, s, _⟩ := h; s
theorem At.er {ρ : Rl α β} {f : FG β} {Q : α → Hp → Prop} (h : At G ρ W f τ m S σ H Q) : EnvR G m H σ τ := let ⟨_, _, _, s, _⟩ := h; s
/-- one thing, then another -/
theorem At.seq {ρ : Rl α β} {ρ' : Rl γ δ} {f : FG β} {g : β → FG δ} {Q : γ → Hp → Prop} {R : α → Hp → Prop} (h : At G ρ' W (bindF f g) τ m S σ H Q)
    (k : ∀ (m1 : Mp) (S1 : Store) (H1 : Hp) (v : α) (d : β), Ext m H m1 H1 → SR G m1 S1 H1 → ρ m1 H1 v d → At G ρ' W (g d) τ m1 S1 σ H1 Q → R v H1) : At G ρ W f τ m S σ H R := by
  obtain ⟨QD, QE, sr, er, hf, p, px⟩ := h
  refine ⟨fun x S1 => g x τ S1 QD QE, QE, sr, er, hf, fun m1 S1 H1 v d e sr1 r q => ?_, px⟩
  exact k m1 S1 H1 v d e sr1 r ⟨QD, QE, sr1, er.mono sr e, q, p.mono e, px.mono e⟩
/-- the answer is there -/
theorem At.fin {ρ : Rl α β} {o : Store → Option β} {Q : α → Hp → Prop} (h : At G ρ W (optF o) τ m S σ H Q) :
    ∃ d, o S = some d ∧ ∀ (m1 : Mp) (H1 : Hp) (v : α), Ext m H m1 H1 → SR G m1 S H1 → ρ m1 H1 v d → Q v H1 := by
  obtain ⟨QD, QE, sr, er, hf, p, px⟩ := h
  unfold optF at hf
  cases q : o S with
  | none => rw [q] at hf; exact hf.elim
  | some d => rw [q] at hf; exact ⟨d, rfl, fun m1 H1 v e sr1 r => p m1 S H1 v d e sr1 r hf⟩
/-- an answer, then more -/
theorem At.opt {ρ : Rl γ δ} {o : Store → Option β} {g : β → FG δ} {Q : γ → Hp → Prop} (h : At G ρ W (bindF (optF o) g) τ m S σ H Q) : ∃ d, o S = some d ∧ At G ρ W (g d) τ m S σ H Q := by
  obtain ⟨QD, QE, sr, er, hf, p, px⟩ := h
  unfold bindF optF at hf
  cases q : o S with
  | none => rw [q] at hf; exact hf.elim
  | some d => rw [q] at hf; exact ⟨d, rfl, QD, QE, sr, er, hf, p, px⟩
theorem At.ret {ρ : Rl α β} {d : β} {Q : α → Hp → Prop} (h : At G ρ W (retF d) τ m S σ H Q) : ∀ (m1 : Mp) (H1 : Hp) (v : α), Ext m H m1 H1 → SR G m1 S H1 → ρ m1 H1 v d → Q v H1 := by
  obtain ⟨QD, QE, sr, er, hf, p, px⟩ := h
  exact fun m1 H1 v e sr1 r => p m1 S H1 v d e sr1 r hf
/-- a weaker reading -/
theorem PE.imp {X : Cx} {e : Expr} {t t' : TE} (h : PE X e t) (k : ∀ σ H Q, t' σ H Q → t σ H Q) : PE X e t' := ⟨fun pins s σ H Q I q => h.run pins s σ H Q I (k σ H Q q)⟩
theorem PT.imp {X : Cx} {e : Expr} {t t' : TT} (h : PT X e t) (k : ∀ σ H Q, t' σ H Q → t σ H Q) : PT X e t' := ⟨fun pins s σ H Q I q => h.run pins s σ H Q I (k σ H Q q)⟩
theorem PW.imp {X : Cx} {e : Expr} {t t' : TT} (h : PW X e t) (k : ∀ σ H Q, t' σ H Q → t σ H Q) : PW X e t' := ⟨fun wh pins s σ H Q I q => h.run wh pins s σ H Q I (k σ H Q q)⟩
theorem PA.imp {X : Cx} {e : List Expr} {t t' : TA} (h : PA X e t) (k : ∀ σ H Q, t' σ H Q → t σ H Q) : PA X e t' := ⟨fun pos pins s σ H Q I q => h.run pos pins s σ H Q I (k σ H Q q)⟩
theorem PS.imp {X : Cx} {e : Stmt} {t t' : TS} (h : PS X e t) (k : ∀ D σ H, t' D σ H → t D σ H) : PS X e t' := ⟨fun pins s σ H D I q => h.run pins s σ H D I (k D σ H q)⟩
theorem PSs.imp {X : Cx} {e : List Stmt} {t t' : TS} (h : PSs X e t) (k : ∀ D σ H, t' D σ H → t D σ H) : PSs X e t' := ⟨fun pins s σ H D I q => h.run pins s σ H D I (k D σ H q)⟩
end

/-! ### atoms -/
def varF (i : Nat) : F := fun τ S Q _ => match τ[i]? with
  | some (some d) => Q d S
  | _ => False
section
variable {G : Gr} {X : Cx} {W : WX}
theorem e_var {i : Nat} {x : Str} {pos : Pos} (hN : X.N[i]? = some x) (hv : Vis X.env.scope x) (hd : (x == ("__debug__" : Str)) = false) (hcd : (x == ("__classdict__" : Str)) = false) : PE X (.Name x pos) (tE G W (varF i)) :=
  PE.imp (pe_var hN hv hd hcd) fun σ H Q ⟨τ, m, S, QD, QE, sr, er, hf, p, px⟩ => by
    unfold varF at hf
    split at hf
    · rename_i d hd
      obtain ⟨v, h1, h2⟩ := er.at_ i d hd
      exact ⟨v, h1, p m S H v d (Ext.refl _ _) sr h2 hf⟩
    · exact hf.elim
theorem e_const {e : Expr} {v : V} {d : D} (h : PE X e (tC v)) (r : ∀ m H, Rep G m H v d) : PE X e (tE G W (retF d)) :=
  PE.imp h fun σ H Q ⟨τ, m, S, h⟩ => h.ret m H v (Ext.refl _ _) h.sr (r m H)
end

/-! ### operators on plain data -/
def getS (S : Store) : D → D
  | .obj n => match S[n]? with
    | some (.lst ds) => .lst ds
    | _ => .obj n
  | d => d
/-- a bool counts as a number -/
def numD : D → Option Int
  | .int i => some i
  | .bl b => some (if b then 1 else 0)
  | _ => none

/-- by values: what an operator makes -/
def OpF (G : Gr) (X : Cx) (f : Value → Value → Sem Value) (g : D → D → F) : Prop :=
  ∃ r, OpR X f r ∧ ∀ (W : WX) (τ : Env) (m : Mp) (S : Store) (σ : L2.St) (H : Hp) (Q : VK) (v w : V) (x y : D), Rep G m H v x → Rep G m H w y → At G (rV G) W (g x y) τ m S σ H Q → r v w H Q
abbrev OpD (G : Gr) (X : Cx) (f : Value → Value → Sem Value) (g : D → D → Store → Option D) : Prop := OpF G X f (fun x y => optF (g x y))
theorem e_bin {G : Gr} {X : Cx} {W : WX} {a b : Expr} {op : Operator} {pos : Pos} {fa fb : F} {g : D → D → F} (ho : OpF G X (binaryOp op) g) (ha : PE X a (tE G W fa)) (hb : PE X b (tE G W fb)) :
    PE X (.BinOp a op b pos) (tE G W (bindF fa fun x => bindF fb fun y => g x y)) := by
  obtain ⟨r, hr, k⟩ := ho
  refine PE.imp (pe_op hr ha hb) fun σ H Q ⟨τ, m, S, h⟩ => ?_
  refine ⟨τ, m, S, h.seq fun m1 S1 H1 v d e1 sr1 r1 h1 => ⟨τ, m1, S1, h1.seq fun m2 S2 H2 w d' e2 sr2 r2 h2 => ?_⟩⟩
  exact k W τ m2 S2 σ H2 Q v w d d' (r1.mono sr1 e2) r2 h2
theorem e_cmp {G : Gr} {X : Cx} {W : WX} {a b : Expr} {op : CmpOp} {pos : Pos} {fa fb : F} {g : D → D → F} (ho : OpF G X (compareOp op) g) (ha : PE X a (tE G W fa)) (hb : PE X b (tE G W fb)) (hm : behindInMarks op b = false) :
    PE X (.Compare a [op] [b] pos) (tE G W (bindF fa fun x => bindF fb fun y => g x y)) := by
  obtain ⟨r, hr, k⟩ := ho
  refine PE.imp (pe_cmpR hr ha hb hm) fun σ H Q ⟨τ, m, S, h⟩ => ?_
  refine ⟨τ, m, S, h.seq fun m1 S1 H1 v d e1 sr1 r1 h1 => ⟨τ, m1, S1, h1.seq fun m2 S2 H2 w d' e2 sr2 r2 h2 => ?_⟩⟩
  exact k W τ m2 S2 σ H2 Q v w d d' (r1.mono sr1 e2) r2 h2
/-- a list that is made: a value, or an object of the store -/
def newL (mu : Bool) (ds : List D) : F := fun _ S Q _ => if mu = true then Q (.obj S.length) (S ++ [.lst ds]) else Q (.lst ds) S
theorem At.newL {G : Gr} {W : WX} {mu : Bool} {ds : List D} {τ : Env} {m : Mp} {S : Store} {σ : L2.St} {H : Hp} {Q : VK} (h : At G (rV G) W (newL mu ds) τ m S σ H Q) {p : Addr} (hp : H p = none) {xs : List V} (r : RepAll G m H xs ds) : Q (.ref p) (upd H p (.lst xs)) := by
  obtain ⟨QD, QE, sr, er, hf, k, px⟩ := h
  unfold Dx.newL at hf
  cases mu with
  | true =>
    rw [if_pos rfl] at hf
    rw [sr.len] at hf
    exact k (m.snoc p) (S ++ [.lst ds]) _ (.ref p) (.obj m.sl.length) (Ext.obj sr hp) (sr.obj hp r) rep_obj hf
  | false =>
    rw [if_neg Bool.false_ne_true] at hf
    exact k m S _ (.ref p) (.lst ds) (Ext.upd sr hp) (sr.upd hp) (.lst (.inl upd_same) (sr.notNone hp) (r.mono sr (Ext.upd sr hp))) hf
theorem At.newT {G : Gr} {W : WX} {ds : List D} {τ : Env} {m : Mp} {S : Store} {σ : L2.St} {H : Hp} {Q : VK} (h : At G (rV G) W (retF (.tup ds)) τ m S σ H Q) {p : Addr} (hp : H p = none) {xs : List V} (r : RepAll G m H xs ds) : Q (.ref p) (upd H p (.tup xs)) :=
  h.ret m _ _ (Ext.upd h.sr hp) (h.sr.upd hp) (.tup (.inl (.inl upd_same)) (r.mono h.sr (Ext.upd h.sr hp)))

/-! ints -/
def o2I (C : Int → Int → Bool) (f : Int → Int → D) : D → D → Store → Option D := fun x y _ => match x, y with
  | .int i, .int j => if C i j = true then some (f i j) else none
  | _, _ => none
theorem opd_int {G : Gr} {X : Cx} {f : Value → Value → Sem Value} {P : Int → Int → Prop} {g : Int → Int → V} {C : Int → Int → Bool} {gd : Int → Int → D} (h : OpR X f (rI P g)) (hC : ∀ i j, C i j = true → P i j) (hg : ∀ i j m H, Rep G m H (g i j) (gd i j)) : OpD G X f (o2I C gd) := by
  refine ⟨_, h, fun W τ m S σ H Q v w x y rv rw hA => ?_⟩
  obtain ⟨d, hd, k⟩ := hA.fin
  unfold o2I at hd
  split at hd
  · split at hd
    · rename_i i j hc
      cases hd
      cases rv
      cases rw
      exact ⟨_, _, rfl, rfl, hC _ _ hc, k m H _ (Ext.refl _ _) hA.sr (hg _ _ _ _)⟩
    · cases hd
  · cases hd
theorem opd_int0 {G : Gr} {X : Cx} {f : Value → Value → Sem Value} {g : Int → Int → V} {gd : Int → Int → D} (h : OpR X f (rI0 g)) (hg : ∀ i j m H, Rep G m H (g i j) (gd i j)) : OpD G X f (o2I (fun _ _ => true) gd) := by
  refine ⟨_, h, fun W τ m S σ H Q v w x y rv rw hA => ?_⟩
  obtain ⟨d, hd, k⟩ := hA.fin
  unfold o2I at hd
  split at hd
  · rw [if_pos rfl] at hd
    cases hd
    cases rv
    cases rw
    exact ⟨_, _, rfl, rfl, k m H _ (Ext.refl _ _) hA.sr (hg _ _ _ _)⟩
  · cases hd
def cMul (i j : Int) : Bool := decide (i.natAbs.log2 + j.natAbs.log2 < 1000000) || decide (-(2 ^ 64) < i ∧ i < 2 ^ 64) || decide (-(2 ^ 64) < j ∧ j < 2 ^ 64)
def cDiv (_ j : Int) : Bool := !decide (j = 0) && decide (j.natAbs.log2 < 9000)
def cPow (i j : Int) : Bool := decide (0 ≤ j) && decide (j ≤ 1000000) && decide (i.natAbs < 2 ^ 64)
section
variable {G : Gr} {X : Cx}
theorem opd_add : OpD G X (binaryOp .Add) (o2I (fun _ _ => true) fun i j => .int (i + j)) := opd_int0 op_add fun _ _ _ _ => .int _
theorem opd_sub : OpD G X (binaryOp .Sub) (o2I (fun _ _ => true) fun i j => .int (i - j)) := opd_int0 op_sub fun _ _ _ _ => .int _
theorem op_mulA : OpR X (binaryOp .Mult) (rI (fun i j => cMul i j = true) fun i j => .int (i * j)) := opI fun i j _ _ _ _ _ hc q => mul_int q (by
  unfold cMul at hc
  simp only [Bool.or_eq_true, decide_eq_true_eq] at hc
  rcases hc with (h | h) | h
  · exact CMulW.ok h
  · exact CMul.ok (.inl h)
  · exact CMul.ok (.inr h))
theorem opd_mul : OpD G X (binaryOp .Mult) (o2I cMul fun i j => .int (i * j)) := opd_int op_mulA (fun _ _ h => h) fun _ _ _ _ => .int _
theorem op_fdivA : OpR X (binaryOp .FloorDiv) (rI (fun i j => cDiv i j = true) fun i j => .int (i.fdiv j)) := opI fun i j _ _ _ _ _ hc q => by
  unfold cDiv at hc
  simp only [Bool.and_eq_true, Bool.not_eq_true', decide_eq_true_eq, decide_eq_false_iff_not] at hc
  exact floordiv_int hc.1 q (.inl (PyProof.noPylong_of_log2 hc.2))
theorem opd_fdiv : OpD G X (binaryOp .FloorDiv) (o2I cDiv fun i j => .int (i.fdiv j)) := opd_int op_fdivA (fun i j h => h) fun _ _ _ _ => .int _
theorem opd_mod : OpD G X (binaryOp .Mod) (o2I (fun _ j => !decide (j = 0)) fun i j => .int (i.fmod j)) := opd_int op_modN (fun i j h => by simpa using h) fun _ _ _ _ => .int _
theorem opd_pow : OpD G X (binaryOp .Pow) (o2I cPow fun i j => .int (i ^ j.toNat)) := opd_int op_pow (fun i j h => by
  unfold cPow at h
  simp only [Bool.and_eq_true, decide_eq_true_eq] at h
  exact ⟨h.1.1, h.1.2, h.2⟩) fun _ _ _ _ => .int _
theorem opd_shl : OpD G X (binaryOp .LShift) (o2I cPow fun i j => .int (i * 2 ^ j.toNat)) := opd_int op_shl (fun i j h => by
  unfold cPow at h
  simp only [Bool.and_eq_true, decide_eq_true_eq] at h
  exact ⟨h.1.1, h.1.2, h.2⟩) fun _ _ _ _ => .int _
theorem opd_shr : OpD G X (binaryOp .RShift) (o2I (fun _ j => decide (0 ≤ j)) fun i j => .int (i / 2 ^ j.toNat)) := opd_int op_shr (fun i j h => by simpa using h) fun _ _ _ _ => .int _
theorem opd_lt : OpD G X (compareOp .Lt) (o2I (fun _ _ => true) fun i j => .bl (decide (i < j))) := opd_int0 op_lt fun _ _ _ _ => .bl _
theorem opd_le : OpD G X (compareOp .LtE) (o2I (fun _ _ => true) fun i j => .bl (decide (i ≤ j))) := opd_int0 op_le fun _ _ _ _ => .bl _
theorem opd_gt : OpD G X (compareOp .Gt) (o2I (fun _ _ => true) fun i j => .bl (decide (j < i))) := opd_int0 op_gt fun _ _ _ _ => .bl _
theorem opd_ge : OpD G X (compareOp .GtE) (o2I (fun _ _ => true) fun i j => .bl (decide (j ≤ i))) := opd_int0 op_ge fun _ _ _ _ => .bl _
end
end Dx

set_option Elab.async false
set_option linter.all false
set_option maxRecDepth 100000
set_option maxHeartbeats 4000000
/-! DX, part 3: ==, is, in, +, * on plain data; places and slices. -/
namespace Dx
open PySem PySem.Spec PyProof.Rows L2

/-! ### plain data as the library's data -/
mutual
def toPy : D → Option PyData
  | .non => some .none
  | .bl b => some (.bool b)
  | .int i => some (.int i)
  | .str x => if PyData.canLay0 (.str x) = true then some (.str x) else none
  | .tup ds => (toPys ds).map .tuple
  | .lst ds => (toPys ds).map .list
  | .obj _ | .ty _ | .gl _ | .exv _ => none
def toPys : List D → Option (List PyData)
  | [] => some []
  | d :: ds => (toPy d).bind fun p => (toPys ds).map fun ps => p :: ps
end
mutual
/-- == -/
def eqD : D → D → Bool
  | .non, .non => true
  | .bl a, .bl b => a == b
  | .bl a, .int j => (if a then 1 else 0) == j
  | .int i, .bl b => i == (if b then 1 else 0)
  | .int i, .int j => i == j
  | .str x, .str y => x == y
  | .tup xs, .tup ys => eqDs xs ys
  | .lst xs, .lst ys => eqDs xs ys
  | _, _ => false
def eqDs : List D → List D → Bool
  | [], [] => true
  | x :: xs, y :: ys => eqD x y && eqDs xs ys
  | _, _ => false
end
mutual
def depD : D → Nat
  | .tup ds => depDs ds + 1
  | .lst ds => depDs ds + 1
  | _ => 0
def depDs : List D → Nat
  | [] => 0
  | d :: ds => max (depD d) (depDs ds)
end
mutual
/-- None, bools, ints, texts, tuples and lists of such -/
def datD : D → Bool
  | .non | .bl _ | .int _ => true
  | .str x => PyData.canLay0 (.str x)
  | .tup ds | .lst ds => datDs ds
  | .obj _ | .ty _ | .gl _ | .exv _ => false
def datDs : List D → Bool
  | [] => true
  | d :: ds => datD d && datDs ds
end
mutual
theorem toPy_some : ∀ (d : D), datD d = true → ∃ p, toPy d = some p ∧ p.canLay0 = true ∧ p.depth = depD d
  | .non, _ => ⟨_, rfl, rfl, rfl⟩
  | .bl _, _ => ⟨_, rfl, rfl, rfl⟩
  | .int _, _ => ⟨_, rfl, rfl, rfl⟩
  | .str x, h => by
    have h' : PyData.canLay0 (.str x) = true := by simpa [datD] using h
    exact ⟨.str x, by unfold toPy; rw [if_pos h'], h', rfl⟩
  | .tup ds, h => by
    obtain ⟨ps, h1, h2, h3⟩ := toPys_some ds (by simpa [datD] using h)
    exact ⟨.tuple ps, by simp [toPy, h1], by simpa [PyData.canLay0] using h2, by simp [PyData.depth, depD, h3]⟩
  | .lst ds, h => by
    obtain ⟨ps, h1, h2, h3⟩ := toPys_some ds (by simpa [datD] using h)
    exact ⟨.list ps, by simp [toPy, h1], by simpa [PyData.canLay0] using h2, by simp [PyData.depth, depD, h3]⟩
  | .obj _, h => by simp [datD] at h
  | .ty _, h => by simp [datD] at h
  | .gl _, h => by simp [datD] at h
  | .exv _, h => by simp [datD] at h
theorem toPys_some : ∀ (ds : List D), datDs ds = true → ∃ ps, toPys ds = some ps ∧ PyData.canLayAll0 ps = true ∧ PyData.depthAll ps = depDs ds
  | [], _ => ⟨[], rfl, rfl, rfl⟩
  | d :: ds, h => by
    have h' : datD d = true ∧ datDs ds = true := by simpa [datDs] using h
    obtain ⟨p, a1, a2, a3⟩ := toPy_some d h'.1
    obtain ⟨ps, b1, b2, b3⟩ := toPys_some ds h'.2
    exact ⟨p :: ps, by simp [toPys, a1, b1], by simp [PyData.canLayAll0, a2, b2], by simp [PyData.depthAll, depDs, a3, b3]⟩
end
theorem toPy_str {x : Str} {p : PyData} (h : toPy (.str x) = some p) : p = .str x := by
  unfold toPy at h
  split at h
  · cases h; rfl
  · cases h
theorem toPy_tup {ds : List D} {p : PyData} (h : toPy (.tup ds) = some p) : ∃ ps, toPys ds = some ps ∧ p = .tuple ps := by
  unfold toPy at h
  obtain ⟨ps, h1, h2⟩ := Option.map_eq_some_iff.mp h
  exact ⟨ps, h1, h2.symm⟩
theorem toPy_lst {ds : List D} {p : PyData} (h : toPy (.lst ds) = some p) : ∃ ps, toPys ds = some ps ∧ p = .list ps := by
  unfold toPy at h
  obtain ⟨ps, h1, h2⟩ := Option.map_eq_some_iff.mp h
  exact ⟨ps, h1, h2.symm⟩
theorem toPys_cons {d : D} {ds : List D} {ps : List PyData} (h : toPys (d :: ds) = some ps) : ∃ p qs, toPy d = some p ∧ toPys ds = some qs ∧ ps = p :: qs := by
  unfold toPys at h
  obtain ⟨p, h1, h2⟩ := Option.bind_eq_some_iff.mp h
  obtain ⟨qs, h3, h4⟩ := Option.map_eq_some_iff.mp h2
  exact ⟨p, qs, h1, h3, h4.symm⟩
mutual
theorem eqv_eqD : ∀ (a b : D) (p q : PyData), toPy a = some p → toPy b = some q → PyData.eqv p q = eqD a b
  | a, b, p, q, ha, hb => by
    cases a with
    | obj _ => cases ha
    | ty _ => cases ha
    | gl _ => cases ha
    | exv _ => cases ha
    | non =>
      cases ha
      cases b with
      | obj _ => cases hb
      | ty _ => cases hb
      | gl _ => cases hb
      | exv _ => cases hb
      | non => cases hb; rfl
      | bl _ => cases hb; rfl
      | int _ => cases hb; rfl
      | str _ => cases toPy_str hb; rfl
      | tup _ => obtain ⟨_, _, rfl⟩ := toPy_tup hb; rfl
      | lst _ => obtain ⟨_, _, rfl⟩ := toPy_lst hb; rfl
    | bl x =>
      cases ha
      cases b with
      | obj _ => cases hb
      | ty _ => cases hb
      | gl _ => cases hb
      | exv _ => cases hb
      | non => cases hb; rfl
      | bl _ => cases hb; rfl
      | int _ => cases hb; rfl
      | str _ => cases toPy_str hb; rfl
      | tup _ => obtain ⟨_, _, rfl⟩ := toPy_tup hb; rfl
      | lst _ => obtain ⟨_, _, rfl⟩ := toPy_lst hb; rfl
    | int x =>
      cases ha
      cases b with
      | obj _ => cases hb
      | ty _ => cases hb
      | gl _ => cases hb
      | exv _ => cases hb
      | non => cases hb; rfl
      | bl _ => cases hb; rfl
      | int _ => cases hb; rfl
      | str _ => cases toPy_str hb; rfl
      | tup _ => obtain ⟨_, _, rfl⟩ := toPy_tup hb; rfl
      | lst _ => obtain ⟨_, _, rfl⟩ := toPy_lst hb; rfl
    | str x =>
      cases toPy_str ha
      cases b with
      | obj _ => cases hb
      | ty _ => cases hb
      | gl _ => cases hb
      | exv _ => cases hb
      | non => cases hb; rfl
      | bl _ => cases hb; rfl
      | int _ => cases hb; rfl
      | str _ => cases toPy_str hb; simp [PyData.eqv, eqD]
      | tup _ => obtain ⟨_, _, rfl⟩ := toPy_tup hb; rfl
      | lst _ => obtain ⟨_, _, rfl⟩ := toPy_lst hb; rfl
    | tup xs =>
      obtain ⟨ps, h1, rfl⟩ := toPy_tup ha
      cases b with
      | obj _ => cases hb
      | ty _ => cases hb
      | gl _ => cases hb
      | exv _ => cases hb
      | non => cases hb; rfl
      | bl _ => cases hb; rfl
      | int _ => cases hb; rfl
      | str _ => cases toPy_str hb; rfl
      | tup ys => obtain ⟨qs, h2, rfl⟩ := toPy_tup hb; simp only [PyData.eqv, eqD]; exact eqv_eqDs xs ys ps qs h1 h2
      | lst _ => obtain ⟨_, _, rfl⟩ := toPy_lst hb; rfl
    | lst xs =>
      obtain ⟨ps, h1, rfl⟩ := toPy_lst ha
      cases b with
      | obj _ => cases hb
      | ty _ => cases hb
      | gl _ => cases hb
      | exv _ => cases hb
      | non => cases hb; rfl
      | bl _ => cases hb; rfl
      | int _ => cases hb; rfl
      | str _ => cases toPy_str hb; rfl
      | tup _ => obtain ⟨_, _, rfl⟩ := toPy_tup hb; rfl
      | lst ys => obtain ⟨qs, h2, rfl⟩ := toPy_lst hb; simp only [PyData.eqv, eqD]; exact eqv_eqDs xs ys ps qs h1 h2
theorem eqv_eqDs : ∀ (xs ys : List D) (ps qs : List PyData), toPys xs = some ps → toPys ys = some qs → PyData.eqvAll ps qs = eqDs xs ys
  | [], [], ps, qs, ha, hb => by cases ha; cases hb; rfl
  | [], y :: ys, ps, qs, ha, hb => by cases ha; obtain ⟨_, _, _, _, rfl⟩ := toPys_cons hb; rfl
  | x :: xs, [], ps, qs, ha, hb => by cases hb; obtain ⟨_, _, _, _, rfl⟩ := toPys_cons ha; rfl
  | x :: xs, y :: ys, ps, qs, ha, hb => by
    obtain ⟨p, ps', h1, h2, rfl⟩ := toPys_cons ha
    obtain ⟨q, qs', h3, h4, rfl⟩ := toPys_cons hb
    simp only [PyData.eqvAll, eqDs, eqv_eqD x y p q h1 h3, eqv_eqDs xs ys ps' qs' h2 h4]
end

section
variable {G : Gr} {m : Mp} {S : Store} {H : Hp}
mutual
theorem Rep.dp : ∀ {v : V} {d : D} {p : PyData}, Rep G m H v d → toPy d = some p → Dp G.K H v p
  | _, _, _, .non, h => by cases h; exact .non
  | _, _, _, .bl b, h => by cases h; exact .bl b
  | _, _, _, .int i, h => by cases h; exact .int i
  | _, _, _, .str s, h => by cases toPy_str h; exact .str s
  | _, _, _, .tup h1 r, h => by obtain ⟨ps, e, rfl⟩ := toPy_tup h; exact .tup h1 (RepAll.dp r e)
  | _, _, _, .lst h1 _ r, h => by obtain ⟨ps, e, rfl⟩ := toPy_lst h; exact .lst (SqX.sq (.inl h1)) (RepAll.dp r e)
  | _, _, _, .klst h1 r, h => by obtain ⟨ps, e, rfl⟩ := toPy_lst h; exact .lst (SqX.sq (.inr h1)) (RepAll.dp r e)
  | _, _, _, .obj _ _, h => by cases h
  | _, _, _, .ty _, h => by cases h
  | _, _, _, .gl _, h => by cases h
  | _, _, _, .exv, h => by cases h
theorem RepAll.dp : ∀ {xs : List V} {ds : List D} {ps : List PyData}, RepAll G m H xs ds → toPys ds = some ps → DpAll G.K H xs ps
  | _, _, _, .nil, h => by cases h; exact .nil
  | _, _, _, .cons a r, h => by obtain ⟨p, qs, h1, h2, rfl⟩ := toPys_cons h; exact .cons (Rep.dp a h1) (RepAll.dp r h2)
end
/-- a list, also one of the store, by its items -/
theorem Rep.getL {v : V} {d : D} {ds : List D} (sr : SR G m S H) (r : Rep G m H v d) (h : getS S d = .lst ds) : ∃ a xs, v = .ref a ∧ SqX G.K H a xs ∧ RepAll G m H xs ds := by
  cases r with
  | lst h1 h2 h3 => cases h; exact ⟨_, _, rfl, .inl h1, h3⟩
  | klst h1 h3 => cases h; exact ⟨_, _, rfl, .inr h1, h3⟩
  | @obj n a h1 h2 =>
    simp only [getS] at h
    split at h
    · rename_i es hs
      cases h
      cases q : m.sl[n]? with
      | none => rw [List.getElem?_eq_none_iff] at q; omega
      | some o =>
        cases o with
        | none =>
          have z := sr.dead n q
          rw [hs] at z; cases z
        | some b =>
          have e := h2 b q
          subst e
          obtain ⟨xs, hx, rx⟩ := sr.at_ n b _ q hs
          exact ⟨b, xs, rfl, .inl (.inl hx), rx⟩
    · cases h
  | non => cases h
  | bl _ => cases h
  | int _ => cases h
  | str _ => cases h
  | tup _ _ => cases h
  | ty _ => cases h
  | gl _ => cases h
  | exv => cases h
theorem Rep.getT {v : V} {d : D} {ds : List D} (r : Rep G m H v d) (h : d = .tup ds) : ∃ a xs, v = .ref a ∧ SqT G.K H a xs ∧ RepAll G m H xs ds := by
  subst h
  cases r with
  | tup h1 h3 => exact ⟨_, _, rfl, h1, h3⟩
theorem getS_not {d : D} (h : ∀ n, d ≠ .obj n) : getS S d = d := by
  cases d <;> first | rfl | exact absurd rfl (h _)
theorem toPy_getS {d : D} {p : PyData} {v : V} (sr : SR G m S H) (r : Rep G m H v d) (h : toPy (getS S d) = some p) : Dp G.K H v p := by
  by_cases o : ∃ n, d = .obj n
  · obtain ⟨n, rfl⟩ := o
    cases q : getS S (.obj n) with
    | lst ds =>
      rw [q] at h
      obtain ⟨ps, e, rfl⟩ := toPy_lst h
      obtain ⟨a, xs, rfl, hx, rx⟩ := r.getL sr q
      exact .lst hx.sq (RepAll.dp rx e)
    | obj k => rw [q] at h; cases h
    | _ =>
      exfalso
      simp only [getS] at q
      split at q <;> cases q
  · rw [getS_not fun n e => o ⟨n, e⟩] at h
    exact r.dp h
end

/-! ### the operators -/
/-- fit to be compared -/
def cmpOk (d : D) : Bool := datD d && decide (depD d ≤ 64)
theorem cmpOk_py {d : D} (h : cmpOk d = true) : ∃ p, toPy d = some p ∧ SeqAt.shaped p = true := by
  unfold cmpOk at h
  simp only [Bool.and_eq_true, decide_eq_true_eq] at h
  obtain ⟨p, h1, h2, h3⟩ := toPy_some d h.1
  refine ⟨p, h1, ?_⟩
  unfold SeqAt.shaped
  rw [h2, h3]
  simpa using h.2
def eqO (x y : D) (S : Store) : Option D := if (cmpOk (getS S x) && cmpOk (getS S y)) = true then some (.bl (eqD (getS S x) (getS S y))) else none
def neO (x y : D) (S : Store) : Option D := if (cmpOk (getS S x) && cmpOk (getS S y)) = true then some (.bl (!eqD (getS S x) (getS S y))) else none
section
variable {G : Gr} {X : Cx}
theorem opd_eq (hK : X.K = G.K) (hu : X.A.units + 64 < cLine) : OpD G X (compareOp .Eq) eqO := by
  refine ⟨_, op_eqD hu, fun W τ m S σ H Q v w x y rv rw_ hA => ?_⟩
  obtain ⟨d, hd, k⟩ := hA.fin
  unfold eqO at hd
  split at hd
  · rename_i hc
    cases hd
    rw [Bool.and_eq_true] at hc
    obtain ⟨p, p1, p2⟩ := cmpOk_py hc.1
    obtain ⟨q, q1, q2⟩ := cmpOk_py hc.2
    rw [hK]
    exact ⟨p, q, toPy_getS hA.sr rv p1, toPy_getS hA.sr rw_ q1, p2, q2, k m H _ (Ext.refl _ _) hA.sr (by rw [eqv_eqD _ _ _ _ p1 q1]; exact .bl _)⟩
  · cases hd
theorem opd_ne (hK : X.K = G.K) (hu : X.A.units + 64 < cLine) : OpD G X (compareOp .NotEq) neO := by
  refine ⟨_, op_neD hu, fun W τ m S σ H Q v w x y rv rw_ hA => ?_⟩
  obtain ⟨d, hd, k⟩ := hA.fin
  unfold neO at hd
  split at hd
  · rename_i hc
    cases hd
    rw [Bool.and_eq_true] at hc
    obtain ⟨p, p1, p2⟩ := cmpOk_py hc.1
    obtain ⟨q, q1, q2⟩ := cmpOk_py hc.2
    rw [hK]
    exact ⟨p, q, toPy_getS hA.sr rv p1, toPy_getS hA.sr rw_ q1, p2, q2, k m H _ (Ext.refl _ _) hA.sr (by rw [eqv_eqD _ _ _ _ p1 q1]; exact .bl _)⟩
  · cases hd

/-! is None, is True -/
def isO (neg : Bool) (x y : D) (_ : Store) : Option D := match y, x with
  | .non, .non => some (.bl (!neg))
  | .non, _ => some (.bl neg)
  | .bl b, .bl a => some (.bl ((a == b) != neg))
  | .bl _, _ => some (.bl neg)
  | _, _ => none
theorem opR_isB : OpR X (compareOp .Is) (fun x y H Q => (y = .non ∧ Q (.bl (decide (x = .non))) H) ∨ ∃ b, y = .bl b ∧ Q (.bl (decide (x = .bl b))) H) := by
  refine op_isN.or ?_
  intro pins s σ H x y v u Q I rx ry h
  obtain ⟨b, rfl, q⟩ := h
  cases (show u = Value.bool b from ry)
  cases x with
  | bl a =>
    cases (show v = Value.bool a from rx)
    by_cases e : a = b
    · subst e
      exact wpAny_is_self rfl ⟨.bl true, H, I, rfl, by simpa using q⟩
    · exact wpAny_is_other rfl (fun z => e (Value.bool.inj z)) ⟨.bl false, H, I, rfl, by simpa [e] using q⟩
  | non => cases rx; exact wpAny_is_other rfl (fun z => nomatch z) ⟨.bl false, H, I, rfl, by simpa using q⟩
  | int i => obtain ⟨t, rfl⟩ := rx; exact wpAny_is_other rfl (fun z => nomatch z) ⟨.bl false, H, I, rfl, by simpa using q⟩
  | str i => obtain ⟨t, rfl⟩ := rx; exact wpAny_is_other rfl (fun z => nomatch z) ⟨.bl false, H, I, rfl, by simpa using q⟩
  | byt i => obtain ⟨t, rfl⟩ := rx; exact wpAny_is_other rfl (fun z => nomatch z) ⟨.bl false, H, I, rfl, by simpa using q⟩
  | flt i => obtain ⟨t, rfl⟩ := rx; exact wpAny_is_other rfl (fun z => nomatch z) ⟨.bl false, H, I, rfl, by simpa using q⟩
  | ref i => cases rx; exact wpAny_is_other rfl (fun z => nomatch z) ⟨.bl false, H, I, rfl, by simpa using q⟩
  | ty i => cases rx; exact wpAny_is_other rfl (fun z => nomatch z) ⟨.bl false, H, I, rfl, by simpa using q⟩
theorem opR_notB : OpR X (compareOp .IsNot) (fun x y H Q => (y = .non ∧ Q (.bl (!decide (x = .non))) H) ∨ ∃ b, y = .bl b ∧ Q (.bl (!decide (x = .bl b))) H) := by
  refine op_notN.or ?_
  intro pins s σ H x y v u Q I rx ry h
  obtain ⟨b, rfl, q⟩ := h
  cases (show u = Value.bool b from ry)
  cases x with
  | bl a =>
    cases (show v = Value.bool a from rx)
    by_cases e : a = b
    · subst e
      exact wpAny_isNot_self rfl ⟨.bl false, H, I, rfl, by simpa using q⟩
    · exact wpAny_isNot_other rfl (fun z => e (Value.bool.inj z)) ⟨.bl true, H, I, rfl, by simpa [e] using q⟩
  | non => cases rx; exact wpAny_isNot_other rfl (fun z => nomatch z) ⟨.bl true, H, I, rfl, by simpa using q⟩
  | int i => obtain ⟨t, rfl⟩ := rx; exact wpAny_isNot_other rfl (fun z => nomatch z) ⟨.bl true, H, I, rfl, by simpa using q⟩
  | str i => obtain ⟨t, rfl⟩ := rx; exact wpAny_isNot_other rfl (fun z => nomatch z) ⟨.bl true, H, I, rfl, by simpa using q⟩
  | byt i => obtain ⟨t, rfl⟩ := rx; exact wpAny_isNot_other rfl (fun z => nomatch z) ⟨.bl true, H, I, rfl, by simpa using q⟩
  | flt i => obtain ⟨t, rfl⟩ := rx; exact wpAny_isNot_other rfl (fun z => nomatch z) ⟨.bl true, H, I, rfl, by simpa using q⟩
  | ref i => cases rx; exact wpAny_isNot_other rfl (fun z => nomatch z) ⟨.bl true, H, I, rfl, by simpa using q⟩
  | ty i => cases rx; exact wpAny_isNot_other rfl (fun z => nomatch z) ⟨.bl true, H, I, rfl, by simpa using q⟩
theorem opd_is : OpD G X (compareOp .Is) (isO false) := by
  refine ⟨_, opR_isB, fun W τ m S σ H Q v w x y rv rw_ hA => ?_⟩
  obtain ⟨d, hd, k⟩ := hA.fin
  have fin : ∀ b, d = .bl b → Q (.bl b) H := fun b e => k m H _ (Ext.refl _ _) hA.sr (e ▸ .bl b)
  cases y with
  | non =>
    cases rw_
    refine .inl ⟨rfl, ?_⟩
    cases rv <;> cases hd <;> exact fin _ rfl
  | bl b =>
    cases rw_
    refine .inr ⟨b, rfl, ?_⟩
    cases rv <;> cases hd <;> first | exact fin _ rfl | (refine fin _ ?_; congr 1; rename_i c; cases b <;> cases c <;> rfl)
  | _ => cases x <;> cases hd
theorem opd_isnot : OpD G X (compareOp .IsNot) (isO true) := by
  refine ⟨_, opR_notB, fun W τ m S σ H Q v w x y rv rw_ hA => ?_⟩
  obtain ⟨d, hd, k⟩ := hA.fin
  have fin : ∀ b, d = .bl b → Q (.bl b) H := fun b e => k m H _ (Ext.refl _ _) hA.sr (e ▸ .bl b)
  cases y with
  | non =>
    cases rw_
    refine .inl ⟨rfl, ?_⟩
    cases rv <;> cases hd <;> exact fin _ rfl
  | bl b =>
    cases rw_
    refine .inr ⟨b, rfl, ?_⟩
    cases rv <;> cases hd <;> first | exact fin _ rfl | (refine fin _ ?_; congr 1; rename_i c; cases b <;> cases c <;> rfl)
  | _ => cases x <;> cases hd
end

/-! in, not in: lists and tuples of data -/
def seqD (S : Store) (d : D) : Option (List D) := match getS S d with
  | .tup ds => some ds
  | .lst ds => some ds
  | _ => none
def inO (neg : Bool) (x y : D) (S : Store) : Option D := match seqD S y with
  | some ds => if (cmpOk (getS S x) && cmpOk (getS S y)) = true then some (.bl ((ds.any fun z => eqD z (getS S x)) != neg)) else none
  | none => none
section
variable {G : Gr} {X : Cx}
def rInX (K : PySem.W.Frag) (neg : Bool) : R2 := fun x y H Q => ∃ d ds, Dp K H x d ∧ (Dp K H y (.list ds) ∨ Dp K H y (.tuple ds)) ∧ SeqAt.shaped d = true ∧ PyData.canLayAll0 ds = true ∧ Q (.bl ((ds.any fun z => PyData.eqv z d) != neg)) H
theorem opR_in (hu : X.A.units + 65 < cLine) : OpR X (compareOp .In) (rInX X.K false) := by
  intro pins s σ H x y v u Q I rx ry h
  obtain ⟨d, ds, hd, he, sd, se, q⟩ := h
  obtain ⟨as, r1⟩ := Dp.reads I d x v hd rx
  rcases he with he | he
  · obtain ⟨bs, r2⟩ := Dp.reads I (.list ds) y u he ry
    exact SeqAt.in_list_reads r2 r1 (by simpa [PyData.canLay0] using se) (SeqAt.canLay_of_shaped sd) (room_in_shaped sd hu) ⟨.bl _, H, I, rfl, by simpa using q⟩
  · obtain ⟨bs, r2⟩ := Dp.reads I (.tuple ds) y u he ry
    exact SeqAt.in_tuple_reads r2 r1 (by simpa [PyData.canLay0] using se) (SeqAt.canLay_of_shaped sd) (room_in_shaped sd hu) ⟨.bl _, H, I, rfl, by simpa using q⟩
theorem opR_notIn (hu : X.A.units + 65 < cLine) : OpR X (compareOp .NotIn) (rInX X.K true) := by
  intro pins s σ H x y v u Q I rx ry h
  obtain ⟨d, ds, hd, he, sd, se, q⟩ := h
  obtain ⟨as, r1⟩ := Dp.reads I d x v hd rx
  rcases he with he | he
  · obtain ⟨bs, r2⟩ := Dp.reads I (.list ds) y u he ry
    exact SeqAt.notIn_list_reads r2 r1 (by simpa [PyData.canLay0] using se) (SeqAt.canLay_of_shaped sd) (room_in_shaped sd hu) ⟨.bl _, H, I, rfl, by simpa using q⟩
  · obtain ⟨bs, r2⟩ := Dp.reads I (.tuple ds) y u he ry
    exact SeqAt.notIn_tuple_reads r2 r1 (by simpa [PyData.canLay0] using se) (SeqAt.canLay_of_shaped sd) (room_in_shaped sd hu) ⟨.bl _, H, I, rfl, by simpa using q⟩
theorem any_eqv {d : D} {p : PyData} (h : toPy d = some p) : ∀ (ds : List D) (ps : List PyData), toPys ds = some ps → (ps.any fun z => PyData.eqv z p) = ds.any fun z => eqD z d
  | [], _, e => by cases e; rfl
  | x :: xs, _, e => by
    obtain ⟨q, qs, h1, h2, rfl⟩ := toPys_cons e
    simp only [List.any_cons, eqv_eqD x d q p h1 h, any_eqv h xs qs h2]
theorem opd_in_of {neg : Bool} {op : CmpOp} (hK : X.K = G.K) (hr : OpR X (compareOp op) (rInX X.K neg)) : OpD G X (compareOp op) (inO neg) := by
  refine ⟨_, hr, fun W τ m S σ H Q v w x y rv rw_ hA => ?_⟩
  obtain ⟨d, hd, k⟩ := hA.fin
  unfold inO at hd
  split at hd
  · rename_i ds hs
    split at hd
    · rename_i hc
      cases hd
      rw [Bool.and_eq_true] at hc
      obtain ⟨p, p1, p2⟩ := cmpOk_py hc.1
      obtain ⟨q, q1, q2⟩ := cmpOk_py hc.2
      rw [hK]
      have dq := toPy_getS hA.sr rw_ q1
      unfold seqD at hs
      split at hs
      · rename_i es he
        cases hs
        rw [he] at q1
        obtain ⟨ps, e, rfl⟩ := toPy_tup q1
        exact ⟨p, ps, toPy_getS hA.sr rv p1, .inr dq, p2, by simpa [PyData.canLay0] using SeqAt.canLay_of_shaped q2, k m H _ (Ext.refl _ _) hA.sr (by rw [any_eqv p1 _ _ e]; exact .bl _)⟩
      · rename_i es he
        cases hs
        rw [he] at q1
        obtain ⟨ps, e, rfl⟩ := toPy_lst q1
        exact ⟨p, ps, toPy_getS hA.sr rv p1, .inl dq, p2, by simpa [PyData.canLay0] using SeqAt.canLay_of_shaped q2, k m H _ (Ext.refl _ _) hA.sr (by rw [any_eqv p1 _ _ e]; exact .bl _)⟩
      · cases hs
    · cases hd
  · cases hd
theorem opd_in (hK : X.K = G.K) (hu : X.A.units + 65 < cLine) : OpD G X (compareOp .In) (inO false) := opd_in_of hK (opR_in hu)
theorem opd_notIn (hK : X.K = G.K) (hu : X.A.units + 65 < cLine) : OpD G X (compareOp .NotIn) (inO true) := opd_in_of hK (opR_notIn hu)
end
end Dx

set_option Elab.async false
set_option linter.all false
set_option maxRecDepth 100000
set_option maxHeartbeats 4000000
/-! DX, part 4: +, -, * of all kinds; places and slices. -/
namespace Dx
open PySem PySem.Spec PyProof.Rows L2

def addF (mu : Bool) (x y : D) : F := fun τ S Q E => match getS S x, getS S y with
  | .int i, .int j => Q (.int (i + j)) S
  | .str a, .str b => a.length + b.length ≤ sizeLine ∧ Q (.str (a ++ b)) S
  | .tup a, .tup b => a.length + b.length ≤ sizeLine ∧ Q (.tup (a ++ b)) S
  | .lst a, .lst b => a.length + b.length ≤ sizeLine ∧ newL mu (a ++ b) τ S Q E
  | .int i, .bl b => Q (.int (i + b2i b)) S
  | .bl a, .int j => Q (.int (b2i a + j)) S
  | .bl a, .bl b => Q (.int (b2i a + b2i b)) S
  | _, _ => False
def subF (x y : D) : F := fun _ S Q _ => match x, y with
  | .int i, .int j => Q (.int (i - j)) S
  | .int i, .bl b => Q (.int (i - b2i b)) S
  | .bl a, .int j => Q (.int (b2i a - j)) S
  | .bl a, .bl b => Q (.int (b2i a - b2i b)) S
  | _, _ => False
def mulF (mu : Bool) (x y : D) : F := fun τ S Q E => match getS S x, getS S y with
  | .int i, .int j => cMul i j = true ∧ Q (.int (i * j)) S
  | .lst a, .int k => (-(2 ^ 63) ≤ k ∧ k < 2 ^ 63 ∧ a.length * k.toNat ≤ sizeLine) ∧ newL mu (List.replicate k.toNat a).flatten τ S Q E
  | .tup a, .int k => (a ≠ [] ∧ 2 ≤ k ∧ k ≤ 1000 ∧ a.length ≤ 1000) ∧ Q (.tup (List.replicate k.toNat a).flatten) S
  | _, _ => False

section
variable {X : Cx}
theorem opR_cat : OpR X (binaryOp .Add) (fun x y H Q => ∃ l b xs zs, x = .ref l ∧ y = .ref b ∧ SqX X.K H l xs ∧ SqX X.K H b zs ∧ xs.length + zs.length ≤ sizeLine ∧ ∀ p, H p = none → Q (.ref p) (upd H p (.lst (xs ++ zs)))) := by
  intro pins s σ H x y v u Q I rx ry h
  obtain ⟨l, b, xs, zs, rfl, rfl, hH, hB, hz, q⟩ := h
  cases rx
  cases ry
  obtain ⟨z, its, n, r, hl, e⟩ := listX I hH
  obtain ⟨z2, its2, n2, r2, hl2, e2⟩ := listX I hB
  refine PySem.P.add_list e e2 ?_ (by rw [List.size_toArray, List.size_toArray]; omega)
  have ea : its.toArray ++ its2.toArray = (its ++ its2).toArray := by simp
  rw [ea]
  exact ⟨.ref _, _, I.lnew (t' := s.toks) (r.append r2) (by rw [List.length_append]; omega), rfl, q _ I.fresh⟩
theorem opR_rep : OpR X (binaryOp .Mult) (fun x y H Q => ∃ l k xs, x = .ref l ∧ y = .int k ∧ SqX X.K H l xs ∧ -(2 ^ 63) ≤ k ∧ k < 2 ^ 63 ∧ xs.length * k.toNat ≤ sizeLine ∧
  ∀ p, H p = none → Q (.ref p) (upd H p (.lst (List.replicate k.toNat xs).flatten))) := by
  intro pins s σ H x y v u Q I rx ry h
  obtain ⟨l, k, xs, rfl, rfl, hH, h1, h2, hz, q⟩ := h
  cases rx
  obtain ⟨t, rfl⟩ := ry
  obtain ⟨z, its, n, r, hl, e⟩ := listX I hH
  have hlen : its.toArray.size * k.toNat ≤ sizeLine := by rw [List.size_toArray, ← hl]; exact hz
  have hcap : ¬ its.toArray.size * k.toNat > (2 ^ 63 - 1) / 8 := by
    have : (sizeLine : Nat) ≤ (2 ^ 63 - 1) / 8 := by decide
    omega
  have hfit : ¬ (!Builtin.List.listFitsIndex k) = true := by
    rw [fitsIndex_both h1 h2]
    exact Bool.false_ne_true
  have hlong : ¬ Builtin.List.listTooLong (its.toArray.size * k.toNat) = true := by
    rw [notLongL hlen]
    exact Bool.false_ne_true
  have hnew : List.foldl (fun x1 x2 => x1 ++ x2) #[] (List.replicate (if its.toArray.isEmpty = true then 0 else k.toNat) its.toArray) = (List.replicate k.toNat its).flatten.toArray := by
    have f0 : ∀ m : Nat, List.foldl (fun x1 x2 => x1 ++ x2) #[] (List.replicate m its.toArray) = (List.replicate m its).flatten.toArray := fun m => by
      have := foldl_rep its m []
      rw [List.nil_append] at this
      exact this
    rw [f0]
    cases its with
    | nil => simp
    | cons a r' => rw [if_neg (by simp)]
  refine wpAny_binaryOp_repeat_ref (T := "list") (U := "int") (by decide) ⟨_, e, rfl⟩ (fun s' => typeIs_int s' k t) noFill_list_mul F.fills_int_mul F.slot_int_rmul repeat_list F.slot_int_index.lookup
    (call_meets F.slot_int_rmul (typeIs_int s k t) F.entry_int_rmul (F.args_int_rmul_2 _ _) (int___rmul___int_list k t l its.toArray n)
      ⟨e, rfl, ⟨_, e, rfl⟩, call_meets F.slot_list_mul ⟨_, e, rfl⟩ F.entry_list_mul (F.args_list_mul_2 _ _) (AutoListH.list___mul___list_int_3 l its.toArray n k t hfit hcap hlong) ⟨e, ?_⟩⟩)
  rw [hnew]
  exact ⟨.ref _, _, I.lnew (t' := s.toks) (r.rep k.toNat) (by rw [PyProof.Rows.lm_len_rep_flat, Nat.mul_comm]; exact hz), rfl, q _ I.fresh⟩
theorem opR_addib : OpR X (binaryOp .Add) (fun x y H Q => ∃ i k, x = .int i ∧ y = .bl k ∧ Q (.int (i + b2i k)) H) := op_add_ib
theorem opR_addbi : OpR X (binaryOp .Add) (fun x y H Q => ∃ k i, x = .bl k ∧ y = .int i ∧ Q (.int (b2i k + i)) H) := by
  intro pins s σ H x y v u Q I rx ry h
  obtain ⟨k, i, rfl, rfl, q⟩ := h
  obtain ⟨t, rfl⟩ := ry
  cases rx
  exact PySem.IntBool.add_bool_int ⟨.int (b2i k + i), H, I.tok _, ⟨_, rfl⟩, q⟩
theorem opR_addbb : OpR X (binaryOp .Add) (fun x y H Q => ∃ k i, x = .bl k ∧ y = .bl i ∧ Q (.int (b2i k + b2i i)) H) := by
  intro pins s σ H x y v u Q I rx ry h
  obtain ⟨k, i, rfl, rfl, q⟩ := h
  cases ry
  cases rx
  exact add_bool ⟨.int (b2i k + b2i i), H, I.tok _, ⟨_, rfl⟩, q⟩
theorem opR_subib : OpR X (binaryOp .Sub) (fun x y H Q => ∃ i k, x = .int i ∧ y = .bl k ∧ Q (.int (i - b2i k)) H) := by
  intro pins s σ H x y v u Q I rx ry h
  obtain ⟨k, i, rfl, rfl, q⟩ := h
  obtain ⟨t, rfl⟩ := rx
  cases ry
  exact PySem.IntBool.sub_int_bool ⟨.int (k - b2i i), H, I.tok _, ⟨_, rfl⟩, q⟩
theorem opR_subbi : OpR X (binaryOp .Sub) (fun x y H Q => ∃ k i, x = .bl k ∧ y = .int i ∧ Q (.int (b2i k - i)) H) := by
  intro pins s σ H x y v u Q I rx ry h
  obtain ⟨k, i, rfl, rfl, q⟩ := h
  obtain ⟨t, rfl⟩ := ry
  cases rx
  exact PySem.IntBool.sub_bool_int ⟨.int (b2i k - i), H, I.tok _, ⟨_, rfl⟩, q⟩
theorem opR_subbb : OpR X (binaryOp .Sub) (fun x y H Q => ∃ k i, x = .bl k ∧ y = .bl i ∧ Q (.int (b2i k - b2i i)) H) := by
  intro pins s σ H x y v u Q I rx ry h
  obtain ⟨k, i, rfl, rfl, q⟩ := h
  cases ry
  cases rx
  exact sub_bool ⟨.int (b2i k - b2i i), H, I.tok _, ⟨_, rfl⟩, q⟩
end

section
variable {G : Gr} {m : Mp} {S : Store} {H : Hp}
/-- the value behind getS -/
theorem getS_int {d : D} {i : Int} (h : getS S d = .int i) : d = .int i := by
  cases d <;> simp only [getS] at h <;> first | exact h | (split at h <;> cases h)
theorem getS_str {d : D} {i : Str} (h : getS S d = .str i) : d = .str i := by
  cases d <;> simp only [getS] at h <;> first | exact h | (split at h <;> cases h)
theorem getS_bl {d : D} {i : Bool} (h : getS S d = .bl i) : d = .bl i := by
  cases d <;> simp only [getS] at h <;> first | exact h | (split at h <;> cases h)
theorem getS_tup {d : D} {i : List D} (h : getS S d = .tup i) : d = .tup i := by
  cases d <;> simp only [getS] at h <;> first | exact h | (split at h <;> cases h)
end
theorem RepAll.rep {G : Gr} {m : Mp} {H : Hp} {xs : List V} {ds : List D} (h : RepAll G m H xs ds) : ∀ k : Nat, RepAll G m H (List.replicate k xs).flatten (List.replicate k ds).flatten
  | 0 => .nil
  | k + 1 => by
    rw [List.replicate_succ, List.replicate_succ, List.flatten_cons, List.flatten_cons]
    exact h.append (RepAll.rep h k)
theorem RepAll.ne {G : Gr} {m : Mp} {H : Hp} {xs : List V} {ds : List D} (h : RepAll G m H xs ds) : xs = [] ↔ ds = [] := by
  have := h.length
  constructor
  · intro e; subst e; exact List.eq_nil_of_length_eq_zero (by simpa using this.symm)
  · intro e; subst e; exact List.eq_nil_of_length_eq_zero (by simpa using this)
section
variable {G : Gr} {X : Cx}
theorem opf_add (hK : X.K = G.K) (mu : Bool) : OpF G X (binaryOp .Add) (addF mu) := by
  refine ⟨_, op_add.or (op_add_str.or (op_catA.or (opR_cat.or (opR_addib.or (opR_addbi.or opR_addbb))))), fun W τ m S σ H Q v w x y rv rw_ hA => ?_⟩
  rw [hK]
  obtain ⟨QD, QE, sr, er, hf, k, px⟩ := hA
  unfold addF at hf
  split at hf
  · rename_i i j h1 h2
    cases getS_int h1; cases getS_int h2; cases rv; cases rw_
    exact .inl ⟨_, _, rfl, rfl, k m S H _ _ (Ext.refl _ _) sr (.int _) hf⟩
  · rename_i i j h1 h2
    cases getS_str h1; cases getS_str h2; cases rv; cases rw_
    exact .inr (.inl ⟨_, _, rfl, rfl, hf.1, k m S H _ _ (Ext.refl _ _) sr (.str _) hf.2⟩)
  · rename_i i j h1 h2
    cases getS_tup h1; cases getS_tup h2
    obtain ⟨a, xs, rfl, t1, r1⟩ := rv.getT rfl
    obtain ⟨b, ys, rfl, t2, r2⟩ := rw_.getT rfl
    refine .inr (.inr (.inl ⟨a, b, xs, ys, rfl, rfl, t1, t2, by rw [r1.length, r2.length]; exact hf.1, fun e => ?_, fun _ e => ?_, fun _ _ p hp => ?_⟩))
    · cases r1.ne.mp e
      exact k m S H _ _ (Ext.refl _ _) sr rw_ (by simpa using hf.2)
    · cases r2.ne.mp e
      exact k m S H _ _ (Ext.refl _ _) sr rv (by simpa using hf.2)
    · exact At.newT (W := W) ⟨QD, QE, sr, er, hf.2, k, px⟩ hp (r1.append r2)
  · rename_i i j h1 h2
    obtain ⟨a, xs, rfl, t1, r1⟩ := rv.getL sr h1
    obtain ⟨b, ys, rfl, t2, r2⟩ := rw_.getL sr h2
    exact .inr (.inr (.inr (.inl ⟨a, b, xs, ys, rfl, rfl, hK ▸ t1, hK ▸ t2, by rw [r1.length, r2.length]; exact hf.1, fun p hp => At.newL (W := W) ⟨QD, QE, sr, er, hf.2, k, px⟩ hp (r1.append r2)⟩)))
  · rename_i i j h1 h2
    cases getS_int h1; cases getS_bl h2; cases rv; cases rw_
    exact .inr (.inr (.inr (.inr (.inl ⟨_, _, rfl, rfl, k m S H _ _ (Ext.refl _ _) sr (.int _) hf⟩))))
  · rename_i i j h1 h2
    cases getS_bl h1; cases getS_int h2; cases rv; cases rw_
    exact .inr (.inr (.inr (.inr (.inr (.inl ⟨_, _, rfl, rfl, k m S H _ _ (Ext.refl _ _) sr (.int _) hf⟩)))))
  · rename_i i j h1 h2
    cases getS_bl h1; cases getS_bl h2; cases rv; cases rw_
    exact .inr (.inr (.inr (.inr (.inr (.inr ⟨_, _, rfl, rfl, k m S H _ _ (Ext.refl _ _) sr (.int _) hf⟩)))))
  · exact hf.elim
theorem opf_sub : OpF G X (binaryOp .Sub) subF := by
  refine ⟨_, op_sub.or (opR_subib.or (opR_subbi.or opR_subbb)), fun W τ m S σ H Q v w x y rv rw_ hA => ?_⟩
  obtain ⟨QD, QE, sr, er, hf, k, px⟩ := hA
  unfold subF at hf
  split at hf
  · cases rv; cases rw_
    exact .inl ⟨_, _, rfl, rfl, k m S H _ _ (Ext.refl _ _) sr (.int _) hf⟩
  · cases rv; cases rw_
    exact .inr (.inl ⟨_, _, rfl, rfl, k m S H _ _ (Ext.refl _ _) sr (.int _) hf⟩)
  · cases rv; cases rw_
    exact .inr (.inr (.inl ⟨_, _, rfl, rfl, k m S H _ _ (Ext.refl _ _) sr (.int _) hf⟩))
  · cases rv; cases rw_
    exact .inr (.inr (.inr ⟨_, _, rfl, rfl, k m S H _ _ (Ext.refl _ _) sr (.int _) hf⟩))
  · exact hf.elim
theorem opf_mul (hK : X.K = G.K) (mu : Bool) : OpF G X (binaryOp .Mult) (mulF mu) := by
  refine ⟨_, op_mulA.or (opR_rep.or op_repT), fun W τ m S σ H Q v w x y rv rw_ hA => ?_⟩
  rw [hK]
  obtain ⟨QD, QE, sr, er, hf, k, px⟩ := hA
  unfold mulF at hf
  split at hf
  · rename_i i j h1 h2
    cases getS_int h1; cases getS_int h2; cases rv; cases rw_
    exact .inl ⟨_, _, rfl, rfl, hf.1, k m S H _ _ (Ext.refl _ _) sr (.int _) hf.2⟩
  · rename_i i j h1 h2
    obtain ⟨a, xs, rfl, t1, r1⟩ := rv.getL sr h1
    cases getS_int h2; cases rw_
    exact .inr (.inl ⟨a, _, xs, rfl, rfl, hK ▸ t1, hf.1.1, hf.1.2.1, by rw [r1.length]; exact hf.1.2.2, fun p hp => At.newL (W := W) ⟨QD, QE, sr, er, hf.2, k, px⟩ hp (r1.rep _)⟩)
  · rename_i i j h1 h2
    cases getS_tup h1
    obtain ⟨a, xs, rfl, t1, r1⟩ := rv.getT rfl
    cases getS_int h2; cases rw_
    exact .inr (.inr ⟨a, _, xs, rfl, rfl, t1, fun e => hf.1.1 (r1.ne.mp e), hf.1.2.1, hf.1.2.2.1, by rw [r1.length]; exact hf.1.2.2.2, fun p hp => At.newT (W := W) ⟨QD, QE, sr, er, hf.2, k, px⟩ hp (r1.rep _)⟩)
  · exact hf.elim
end
end Dx

set_option Elab.async false
set_option linter.all false
set_option maxRecDepth 100000
set_option maxHeartbeats 4000000
/-! DX, part 5: places, slices, truth, and, or, not, if, displays, arguments. -/
namespace Dx
open PySem PySem.Spec PyProof.Rows L2

/-! ### places -/
def idxF (x y : D) : F := fun _ S Q _ => match getS S x, y with
  | .tup ds, .int i => (match atI ds i with | some d => Q d S | none => False)
  | .lst ds, .int i => (match atI ds i with | some d => Q d S | none => False)
  | .str z, .int i => z.length ≤ sizeLine ∧ (match atI z.cps.toList i with | some c => Q (.str ⟨#[c]⟩) S | none => False)
  | _, _ => False
theorem RepAll.atI {G : Gr} {m : Mp} {H : Hp} {xs : List V} {ds : List D} (r : RepAll G m H xs ds) {i : Int} {d : D} (h : L2.atI ds i = some d) : ∃ v, L2.atI xs i = some v ∧ Rep G m H v d := by
  unfold L2.atI at h ⊢
  rw [r.length]
  obtain ⟨j, h1, h2⟩ := Option.bind_eq_some_iff.mp h
  obtain ⟨v, h3, h4⟩ := r.get h2
  exact ⟨v, Option.bind_eq_some_iff.mpr ⟨j, h1, h3⟩, h4⟩
section
variable {G : Gr} {X : Cx} {W : WX} {a b e : Expr} {pos : Pos} {fa fb : F}
theorem e_idx (hK : X.K = G.K) (ha : PE X a (tE G W fa)) (hb : PE X b (tE G W fb)) (hs : PlainIx b) : PE X (.Subscript a b pos) (tE G W (bindF fa fun x => bindF fb fun y => idxF x y)) := by
  refine PE.imp (pe_ix ix_seq ha hb hs) fun σ H Q ⟨τ, m, S, h⟩ => ?_
  refine ⟨τ, m, S, h.seq fun m1 S1 H1 v x e1 sr1 r1 h1 => ⟨τ, m1, S1, h1.seq fun m2 S2 H2 w y e2 sr2 r2 h2 => ?_⟩⟩
  have r1' := r1.mono sr1 e2
  rw [hK]
  obtain ⟨QD, QE, sr, er, hf, k, px⟩ := h2
  unfold idxF at hf
  split at hf
  · rename_i ds i h1
    cases getS_tup h1
    cases r2
    obtain ⟨p, xs, rfl, t1, ra⟩ := r1'.getT rfl
    split at hf
    · rename_i d hd
      obtain ⟨v, h3, h4⟩ := ra.atI hd
      exact .inr (.inl ⟨p, xs, i, v, rfl, rfl, t1, h3, k m2 S2 H2 v d (Ext.refl _ _) sr h4 hf⟩)
    · exact hf.elim
  · rename_i ds i h1
    cases r2
    obtain ⟨p, xs, rfl, t1, ra⟩ := r1'.getL sr h1
    split at hf
    · rename_i d hd
      obtain ⟨v, h3, h4⟩ := ra.atI hd
      exact .inl ⟨p, xs, i, v, rfl, rfl, t1.sq, h3, k m2 S2 H2 v d (Ext.refl _ _) sr h4 hf⟩
    · exact hf.elim
  · rename_i z i h1
    cases getS_str h1
    cases r1'; cases r2
    obtain ⟨hz, hf⟩ := hf
    split at hf
    · rename_i c hc
      exact .inr (.inr ⟨z, i, c, rfl, rfl, hz, hc, k m2 S2 H2 _ _ (Ext.refl _ _) sr (.str _) hf⟩)
    · exact hf.elim
  · exact hf.elim
end

/-! ### slices -/
def cutD {α : Type} (ds : List α) (lo hi : Option Int) : List α := (ds.drop (HT.sIx ds.length 0 lo)).take (HT.sIx ds.length ds.length hi - HT.sIx ds.length 0 lo)
theorem RepAll.cut {G : Gr} {m : Mp} {H : Hp} {xs : List V} {ds : List D} (r : RepAll G m H xs ds) (lo hi : Option Int) : RepAll G m H (cutV xs lo hi) (cutD ds lo hi) := by
  unfold cutV cutD
  rw [r.length]
  exact (r.drop _).take _
theorem cutD_whole {α : Type} {ds : List α} {lo hi : Option Int} (h : HT.sIx ds.length 0 lo = 0 ∧ HT.sIx ds.length ds.length hi = ds.length) : cutD ds lo hi = ds := by
  unfold cutD
  rw [h.1, h.2]
  simp
def slcF (mu : Bool) (x : D) (lo hi : Option Int) : F := fun τ S Q E => match getS S x with
  | .tup ds => Q (.tup (cutD ds lo hi)) S
  | .lst ds => newL mu (cutD ds lo hi) τ S Q E
  | .str z => z.length ≤ sizeLine ∧ Q (.str (cutS z lo hi)) S
  | _ => False
def noF : FG (Option Int) := retF none
def intF (d : D) : FG (Option Int) := fun _ S Q _ => match d with
  | .int i => Q (some i) S
  | _ => False
section
variable {G : Gr} {X : Cx} {W : WX} {a b e : Expr} {pos p2 : Pos} {fa fb : F} {lo hi : Option Expr} {fl fh : FG (Option Int)}
theorem o_none : PO X none (tO G W noF) := ⟨fun pins s σ H Q I ⟨τ, m, S, h⟩ => po_none.run pins s σ H Q I (h.ret m H none (Ext.refl _ _) h.sr rfl)⟩
theorem o_some (h : PE X e (tE G W fa)) : PO X (some e) (tO G W (bindF fa intF)) := ⟨fun pins s σ H Q I ⟨τ, m, S, hA⟩ => (po_some h).run pins s σ H Q I ⟨τ, m, S, hA.seq fun m1 S1 H1 v d e1 sr1 r1 h1 => by
  obtain ⟨QD, QE, sr, er, hf, k, px⟩ := h1
  unfold intF at hf
  split at hf
  · rename_i i
    cases r1
    exact ⟨i, rfl, k m1 S1 H1 _ _ (Ext.refl _ _) sr rfl hf⟩
  · exact hf.elim⟩⟩
theorem e_slc (hK : X.K = G.K) (mu : Bool) (ha : PE X a (tE G W fa)) (hl : PO X lo (tO G W fl)) (hh : PO X hi (tO G W fh)) :
    PE X (.Subscript a (.Slice lo hi none p2) pos) (tE G W (bindF fa fun x => bindF fl fun l => bindF fh fun h => slcF mu x l h)) := by
  refine PE.imp (pe_slice (sl_list.or (sl_tupA.or sl_str)) ha hl hh) fun σ H Q ⟨τ, m, S, h⟩ => ?_
  refine ⟨τ, m, S, h.seq fun m1 S1 H1 v x e1 sr1 r1 h1 => ⟨τ, m1, S1, h1.seq fun m2 S2 H2 l l' e2 sr2 r2 h2 => ⟨τ, m2, S2, h2.seq fun m3 S3 H3 u u' e3 sr3 r3 h3 => ?_⟩⟩⟩
  cases (show l = l' from r2); cases (show u = u' from r3)
  have r1' := (r1.mono sr1 e2).mono sr2 e3
  rw [hK]
  obtain ⟨QD, QE, sr, er, hf, k, px⟩ := h3
  unfold slcF at hf
  split at hf
  · rename_i ds h1
    cases getS_tup h1
    obtain ⟨p, xs, rfl, t1, ra⟩ := r1'.getT rfl
    refine .inr (.inl ⟨p, xs, rfl, t1, fun hw => ?_, fun _ q hq => At.newT (W := W) ⟨QD, QE, sr, er, hf, k, px⟩ hq (ra.cut _ _)⟩)
    rw [ra.length] at hw
    rw [cutD_whole hw] at hf
    exact k m3 S3 H3 _ _ (Ext.refl _ _) sr r1' hf
  · rename_i ds h1
    obtain ⟨p, xs, rfl, t1, ra⟩ := r1'.getL sr h1
    exact .inl ⟨p, xs, rfl, t1.sq, fun q hq => At.newL (W := W) ⟨QD, QE, sr, er, hf, k, px⟩ hq (ra.cut _ _)⟩
  · rename_i z h1
    cases getS_str h1
    cases r1'
    exact .inr (.inr ⟨z, rfl, hf.1, k m3 S3 H3 _ _ (Ext.refl _ _) sr (.str _) hf.2⟩)
  · exact hf.elim
end

/-! ### truth -/
def truD (S : Store) (d : D) : Option Bool := match getS S d with
  | .non => some false
  | .bl b => some b
  | .int i => some (i != 0)
  | .str y => if y.length ≤ sizeLine then some ((y.length : Int) != 0) else none
  | .tup ds => some !ds.isEmpty
  | .lst ds => some !ds.isEmpty
  | _ => none
def truF (d : D) : FG Bool := optF fun S => truD S d
theorem RepAll.empty {G : Gr} {m : Mp} {H : Hp} {xs : List V} {ds : List D} (r : RepAll G m H xs ds) : xs.isEmpty = ds.isEmpty := by cases r <;> rfl
theorem getS_non {S : Store} {d : D} (h : getS S d = .non) : d = .non := by
  cases d with
  | non => rfl
  | obj n => simp only [getS] at h; split at h <;> cases h
  | _ => cases h
theorem Rep.tru {G : Gr} {m : Mp} {S : Store} {H : Hp} {v : V} {d : D} {b : Bool} (sr : SR G m S H) (r : Rep G m H v d) (h : truD S d = some b) : TruV G.K v H b := by
  unfold truD at h
  split at h
  · rename_i q
    cases getS_non q; cases r; cases h; rfl
  · rename_i q
    cases getS_bl q; cases r; cases h; rfl
  · rename_i q
    cases getS_int q; cases r; cases h; rfl
  · rename_i q
    cases getS_str q; cases r
    split at h
    · rename_i hl
      cases h; exact ⟨hl, rfl⟩
    · cases h
  · rename_i q
    cases getS_tup q
    cases h
    obtain ⟨p, xs, rfl, t1, ra⟩ := r.getT rfl
    exact .inr (.inl ⟨xs, t1, by rw [ra.empty]⟩)
  · rename_i q
    cases h
    obtain ⟨p, xs, rfl, t1, ra⟩ := r.getL sr q
    exact .inl ⟨xs, t1.sq, by rw [ra.empty]⟩
  · cases h
section
variable {G : Gr} {X : Cx} {W : WX} {a b c e : Expr} {pos p2 : Pos} {fa fb : F} {ta tb tc : FG Bool} {rest : List Expr}
/-- an expression of any kind as a test -/
theorem t_truth (hK : X.K = G.K) (ha : PE X a (tE G W fa)) (he : ∀ whole, isTrue a X.env whole = (do let v ← whole; standAt a.pos; holding [v] (truthy v))) : PT X a (tT G W (bindF fa truF)) :=
  PT.imp (pt_truth ha he) fun σ H Q ⟨τ, m, S, h⟩ => ⟨τ, m, S, h.seq fun m1 S1 H1 v x e1 sr1 r1 h1 => by
    obtain ⟨b, hb, k⟩ := h1.fin
    exact ⟨b, by rw [hK]; exact r1.tru h1.sr hb, k m1 H1 b (Ext.refl _ _) h1.sr rfl⟩⟩
theorem t_cmp {op : CmpOp} {g : D → D → F} (ho : OpF G X (compareOp op) g) (hg : ∀ x y τ S Q E, g x y τ S Q E → g x y τ S (fun d S' => ∃ b, d = .bl b ∧ Q d S') E) (ha : PE X a (tE G W fa)) (hb : PE X b (tE G W fb)) (hm : behindInMarks op b = false) :
    PT X (.Compare a [op] [b] pos) (tT G W (bindF fa fun x => bindF fb fun y => bindF (g x y) truF)) := by
  obtain ⟨r, hr, k⟩ := ho
  refine PT.imp (pt_cmpR hr ha hb hm) fun σ H Q ⟨τ, m, S, h⟩ => ?_
  refine ⟨τ, m, S, h.seq fun m1 S1 H1 v d e1 sr1 r1 h1 => ⟨τ, m1, S1, h1.seq fun m2 S2 H2 w d' e2 sr2 r2 h2 => ?_⟩⟩
  refine k W τ m2 S2 σ H2 _ v w d d' (r1.mono sr1 e2) r2 ?_
  obtain ⟨QD, QE, sr, er, hf, kk, px⟩ := h2
  refine ⟨_, QE, sr, er, hg _ _ _ _ _ _ hf, fun m3 S3 H3 u x e3 sr3 r3 q3 => ?_, px⟩
  obtain ⟨b, rfl, q3⟩ := q3
  cases r3
  exact ⟨b, rfl, kk m3 S3 H3 b b e3 sr3 rfl q3⟩
/-- not -/
def notF (f : FG Bool) : FG Bool := bindF f fun b => retF !b
theorem t_not (ha : PT X a (tT G W ta)) : PT X (.UnaryOp .Not a pos) (tT G W (notF ta)) :=
  PT.imp (pt_not ha) fun σ H Q ⟨τ, m, S, h⟩ => ⟨τ, m, S, h.seq fun m1 S1 H1 v x e1 sr1 r1 h1 => by
    cases (show v = x from r1)
    exact h1.ret m1 H1 _ (Ext.refl _ _) h1.sr rfl⟩
/-- and, or -/
def andF (f g : FG Bool) : FG Bool := bindF f fun b => if b = true then g else retF false
def orF (f g : FG Bool) : FG Bool := bindF f fun b => if b = true then retF true else g
theorem w_one_and (ha : PT X a (tT G W ta)) : PW X (.BoolOp .And [a] pos) (tT G W ta) := pw_and1 ha
theorem w_one_or (ha : PT X a (tT G W ta)) : PW X (.BoolOp .Or [a] pos) (tT G W ta) := pw_or1 ha
theorem w_and (ha : PT X a (tT G W ta)) (hb : PW X (.BoolOp .And (b :: rest) pos) (tT G W tb)) : PW X (.BoolOp .And (a :: b :: rest) pos) (tT G W (andF ta tb)) :=
  PW.imp (pw_and ha hb) fun σ H Q ⟨τ, m, S, h⟩ => ⟨τ, m, S, h.seq fun m1 S1 H1 v x e1 sr1 r1 h1 => by
    cases (show v = x from r1)
    cases v with
    | true => exact iteT ⟨τ, m1, S1, h1⟩
    | false => exact iteF (h1.ret m1 H1 _ (Ext.refl _ _) h1.sr rfl)⟩
theorem w_or (ha : PT X a (tT G W ta)) (hb : PW X (.BoolOp .Or (b :: rest) pos) (tT G W tb)) : PW X (.BoolOp .Or (a :: b :: rest) pos) (tT G W (orF ta tb)) :=
  PW.imp (pw_or ha hb) fun σ H Q ⟨τ, m, S, h⟩ => ⟨τ, m, S, h.seq fun m1 S1 H1 v x e1 sr1 r1 h1 => by
    cases (show v = x from r1)
    cases v with
    | true => exact iteT (h1.ret m1 H1 _ (Ext.refl _ _) h1.sr rfl)
    | false => exact iteF ⟨τ, m1, S1, h1⟩⟩
/-- .. as values -/
def andV (f g : F) : F := bindF f fun d => bindF (truF d) fun b => if b = true then g else retF d
def orV (f g : F) : F := bindF f fun d => bindF (truF d) fun b => if b = true then retF d else g
def notV (f : F) : F := bindF f fun d => bindF (truF d) fun b => retF (.bl !b)
theorem e_andV (hK : X.K = G.K) (ha : PE X a (tE G W fa)) (hb : PE X (.BoolOp .And (b :: rest) pos) (tE G W fb)) : PE X (.BoolOp .And (a :: b :: rest) pos) (tE G W (andV fa fb)) :=
  PE.imp (pe_andT ha hb) fun σ H Q ⟨τ, m, S, h⟩ => ⟨τ, m, S, h.seq fun m1 S1 H1 v x e1 sr1 r1 h1 => by
    obtain ⟨b, hb, h2⟩ := h1.opt
    refine ⟨b, by rw [hK]; exact r1.tru sr1 hb, ?_⟩
    cases b with
    | true => rw [if_pos rfl] at h2; exact iteT ⟨τ, m1, S1, h2⟩
    | false => rw [if_neg Bool.false_ne_true] at h2; exact iteF (h2.ret m1 H1 _ (Ext.refl _ _) sr1 r1)⟩
theorem e_orV (hK : X.K = G.K) (ha : PE X a (tE G W fa)) (hb : PE X (.BoolOp .Or (b :: rest) pos) (tE G W fb)) : PE X (.BoolOp .Or (a :: b :: rest) pos) (tE G W (orV fa fb)) :=
  PE.imp (pe_orT ha hb) fun σ H Q ⟨τ, m, S, h⟩ => ⟨τ, m, S, h.seq fun m1 S1 H1 v x e1 sr1 r1 h1 => by
    obtain ⟨b, hb, h2⟩ := h1.opt
    refine ⟨b, by rw [hK]; exact r1.tru sr1 hb, ?_⟩
    cases b with
    | true => rw [if_pos rfl] at h2; exact iteT (h2.ret m1 H1 _ (Ext.refl _ _) sr1 r1)
    | false => rw [if_neg Bool.false_ne_true] at h2; exact iteF ⟨τ, m1, S1, h2⟩⟩
theorem e_notV (hK : X.K = G.K) (ha : PE X a (tE G W fa)) : PE X (.UnaryOp .Not a pos) (tE G W (notV fa)) :=
  PE.imp (pe_notT ha) fun σ H Q ⟨τ, m, S, h⟩ => ⟨τ, m, S, h.seq fun m1 S1 H1 v x e1 sr1 r1 h1 => by
    obtain ⟨b, hb, h2⟩ := h1.opt
    exact ⟨b, by rw [hK]; exact r1.tru sr1 hb, h2.ret m1 H1 _ (Ext.refl _ _) sr1 (.bl _)⟩⟩
/-- a if t else b -/
def iteV {β : Type} (t : FG Bool) (f g : FG β) : FG β := bindF t fun b => if b = true then f else g
theorem e_ife (hc : PT X c (tT G W tc)) (ha : PE X a (tE G W fa)) (hb : PE X b (tE G W fb)) : PE X (.IfExp c a b pos) (tE G W (iteV tc fa fb)) :=
  PE.imp (pe_ifExp hc ha hb) fun σ H Q ⟨τ, m, S, h⟩ => ⟨τ, m, S, h.seq fun m1 S1 H1 v x e1 sr1 r1 h1 => by
    cases (show v = x from r1)
    cases v with
    | true => exact iteT ⟨τ, m1, S1, h1⟩
    | false => exact iteF ⟨τ, m1, S1, h1⟩⟩
theorem e_neg (ha : PE X a (tE G W fa)) : PE X (.UnaryOp .USub a pos) (tE G W (bindF fa fun x => optF fun _ => match x with | .int i => some (.int (-i)) | _ => none)) :=
  PE.imp (pe_un un_neg ha) fun σ H Q ⟨τ, m, S, h⟩ => ⟨τ, m, S, h.seq fun m1 S1 H1 v x e1 sr1 r1 h1 => by
    obtain ⟨d, hd, k⟩ := h1.fin
    split at hd
    · cases hd; cases r1
      exact ⟨_, rfl, k m1 H1 _ (Ext.refl _ _) sr1 (.int _)⟩
    · cases hd⟩
/-- a < b < c -/
def chF (g g' : D → D → F) (fa fb fc : F) : F := bindF fa fun x => bindF fb fun y => bindF (g x y) fun z => bindF (optF fun _ => match z with | .bl b => some b | _ => none) fun k => if k = true then bindF fc fun u => g' y u else retF (.bl false)
def chT (g g' : D → D → F) (fa fb fc : F) : FG Bool := bindF fa fun x => bindF fb fun y => bindF (g x y) fun z => bindF (optF fun _ => match z with | .bl b => some b | _ => none) fun k => if k = true then bindF fc fun u => bindF (g' y u) truF else retF false
end

/-! ### argument lists, displays -/
def nilF : FG (List D) := retF []
def consF (f : F) (g : FG (List D)) : FG (List D) := bindF f fun x => bindF g fun xs => retF (x :: xs)
section
variable {G : Gr} {X : Cx} {W : WX} {e : Expr} {es : List Expr} {pos : Pos} {f : F} {g : FG (List D)}
theorem a_nil : PA X [] (tA G W nilF) := PA.imp pa_nil fun σ H Q ⟨τ, m, S, h⟩ => h.ret m H [] (Ext.refl _ _) h.sr .nil
theorem a_cons (ha : PE X e (tE G W f)) (hr : PA X es (tA G W g)) (hs : starEach (e :: es) X.env = (false, eval e X.env) :: starEach es X.env) : PA X (e :: es) (tA G W (consF f g)) :=
  PA.imp (pa_cons ha hr hs) fun σ H Q ⟨τ, m, S, h⟩ => ⟨τ, m, S, h.seq fun m1 S1 H1 v x e1 sr1 r1 h1 => ⟨τ, m1, S1, h1.seq fun m2 S2 H2 vs xs e2 sr2 r2 h2 => h2.ret m2 H2 _ (Ext.refl _ _) sr2 (.cons (r1.mono sr1 e2) r2)⟩⟩
def lenF (n : Nat) : FG Unit := fun _ S Q _ => n ≤ sizeLine ∧ Q () S
theorem e_tup {x1} (h : PA X es (tA G W g)) : PE X (.Tuple es x1 pos) (tE G W (bindF g fun ds τ S Q E => ds.length ≤ sizeLine ∧ Q (.tup ds) S)) :=
  PE.imp (pe_tup h) fun σ H Q ⟨τ, m, S, hA⟩ => ⟨τ, m, S, hA.seq fun m1 S1 H1 vs ds e1 sr1 r1 h1 => by
    obtain ⟨QD, QE, sr, er, hf, k, px⟩ := h1
    exact ⟨by rw [r1.length]; exact hf.1, fun p hp => At.newT (W := W) ⟨QD, QE, sr, er, hf.2, k, px⟩ hp r1⟩⟩
theorem e_lst (mu : Bool) (h : PA X es (tA G W g)) : PE X (.List es pos) (tE G W (bindF g fun ds τ S Q E => ds.length ≤ sizeLine ∧ newL mu ds τ S Q E)) :=
  PE.imp (pe_lst h) fun σ H Q ⟨τ, m, S, hA⟩ => ⟨τ, m, S, hA.seq fun m1 S1 H1 vs ds e1 sr1 r1 h1 => by
    obtain ⟨QD, QE, sr, er, hf, k, px⟩ := h1
    exact ⟨by rw [r1.length]; exact hf.1, fun p hp => At.newL (W := W) ⟨QD, QE, sr, er, hf.2, k, px⟩ hp r1⟩⟩
/-- a list of the store told as a value -/
def frzF (d : D) : F := fun _ S Q _ => match d with
  | .obj n => (match S[n]? with | some (.lst ds) => Q (.lst ds) (S.set n .dead) | _ => False)
  | _ => False
theorem e_frz (h : PE X e (tE G W f)) : PE X e (tE G W (bindF f frzF)) := ⟨fun pins s σ H Q I ⟨τ, m, S, hA⟩ => h.run pins s σ H Q I ⟨τ, m, S, hA.seq fun m1 S1 H1 v d e1 sr1 r1 h1 => by
  obtain ⟨QD, QE, sr, er, hf, k, px⟩ := h1
  unfold frzF at hf
  split at hf
  · rename_i n
    split at hf
    · rename_i ds hs
      cases r1 with
      | @obj _ a h1 h2 =>
        cases q : m1.sl[n]? with
        | none => rw [List.getElem?_eq_none_iff] at q; omega
        | some o =>
          cases o with
          | none =>
            have z := sr.dead n q
            rw [hs] at z; cases z
          | some b =>
            have e := h2 b q
            subst e
            exact k (m1.kill n) (S1.set n .dead) H1 _ _ Ext.frozen sr.frozen (rep_frozen sr q hs) hf
    · exact hf.elim
  · exact hf.elim⟩⟩
end

/-! ### built-ins by name -/
/-- what a built-in makes of its arguments -/
def BF (G : Gr) (X : Cx) (f : Value) (g : List D → F) : Prop :=
  ∃ r, CallR X f r ∧ ∀ (W : WX) (τ : Env) (m : Mp) (S : Store) (σ : L2.St) (H : Hp) (Q : VK) (vs : List V) (ds : List D), RepAll G m H vs ds → At G (rV G) W (g ds) τ m S σ H Q → r vs H Q
section
variable {G : Gr} {X : Cx} {W : WX} {x : Str} {p pos : Pos} {e : Expr} {es : List Expr} {fa : FG (List D)} {g : List D → F} {id T : String}
theorem tCB_imp {r : List V → Hp → VK → Prop} (k : ∀ (W : WX) (τ : Env) (m : Mp) (S : Store) (σ : L2.St) (H : Hp) (Q : VK) (vs : List V) (ds : List D), RepAll G m H vs ds → At G (rV G) W (g ds) τ m S σ H Q → r vs H Q) (σ : L2.St) (H : Hp) (Q : VK)
    (h : tE G W (bindF fa g) σ H Q) : tCB r (tA G W fa) σ H Q := by
  obtain ⟨τ, m, S, h⟩ := h
  exact ⟨τ, m, S, h.seq fun m1 S1 H1 vs ds e1 sr1 r1 h1 => k W τ m1 S1 σ H1 Q vs ds r1 h1⟩
theorem e_callB (hc : BF G X (.builtin id) g) (hg : Gl X x) (hm : X.mg x = none) (hv : bootBuiltins x = some (.builtin id)) (ha : PA X (e :: es) (tA G W fa)) (hn : x ≠ "__name__") (hdb : (x == ("__debug__" : Str)) = false)
    (he : starEach (e :: es) X.env = (false, eval e X.env) :: starEach es X.env) (hpl : (backTo pos (starEach es X.env)).any (·.1) = false) : PE X (.Call (.Name x p) (e :: es) [] pos) (tE G W (bindF fa g)) := by
  obtain ⟨r, hr, k⟩ := hc
  exact PE.imp (pe_callB hr hg hm hv ha hn hdb he hpl) (tCB_imp k)
theorem e_callTy (hc : BF G X (.type T) g) (hg : Gl X x) (hm : X.mg x = none) (hv : bootBuiltins x = some (.type T)) (ha : PA X (e :: es) (tA G W fa)) (hn : x ≠ "__name__") (hdb : (x == ("__debug__" : Str)) = false)
    (he : starEach (e :: es) X.env = (false, eval e X.env) :: starEach es X.env) (hpl : (backTo pos (starEach es X.env)).any (·.1) = false) : PE X (.Call (.Name x p) (e :: es) [] pos) (tE G W (bindF fa g)) := by
  obtain ⟨r, hr, k⟩ := hc
  exact PE.imp (pe_callTy hr hg hm hv ha hn hdb he hpl) (tCB_imp k)
theorem e_callBfun (hc : BF G X (.builtin id) g) (hg : Gl X x) (hm : X.mg x = some (.builtin id)) (ha : PA X (e :: es) (tA G W fa)) (hdb : (x == ("__debug__" : Str)) = false)
    (he : starEach (e :: es) X.env = (false, eval e X.env) :: starEach es X.env) (hpl : (backTo pos (starEach es X.env)).any (·.1) = false) : PE X (.Call (.Name x p) (e :: es) [] pos) (tE G W (bindF fa g)) := by
  obtain ⟨r, hr, k⟩ := hc
  exact PE.imp (pe_callBfun hr hg hm ha hdb he hpl) (tCB_imp k)
end
end Dx

set_option Elab.async false
set_option linter.all false
set_option maxRecDepth 100000
set_option maxHeartbeats 4000000
/-! DX, part 6: built-in functions. -/
namespace Dx
open PySem PySem.Spec PyProof.Rows L2

section
variable {G : Gr} {X : Cx}
/-! abs, int, bool, gcd, str -/
def absB (ds : List D) : F := optF fun _ => match ds with
  | [.int i] => some (.int (if i < 0 then -i else i))
  | _ => none
theorem bf_abs : BF G X (.builtin "abs") absB := by
  refine ⟨_, call_abs, fun W τ m S σ H Q vs ds r hA => ?_⟩
  obtain ⟨d, hd, k⟩ := hA.fin
  split at hd
  · cases hd
    cases r with
    | cons a r => cases r; cases a; exact ⟨_, rfl, k m H _ (Ext.refl _ _) hA.sr (.int _)⟩
  · cases hd
def intB (ds : List D) : F := optF fun _ => match ds with
  | [.int i] => some (.int i)
  | [.bl b] => some (.int (if b then 1 else 0))
  | _ => none
theorem bf_int : BF G X (.type "int") intB := by
  refine ⟨_, call_int1, fun W τ m S σ H Q vs ds r hA => ?_⟩
  obtain ⟨d, hd, k⟩ := hA.fin
  split at hd
  · cases hd
    cases r with
    | cons a r => cases r; cases a; exact .inl ⟨_, rfl, k m H _ (Ext.refl _ _) hA.sr (.int _)⟩
  · cases hd
    cases r with
    | cons a r => cases r; cases a; exact .inr ⟨_, rfl, k m H _ (Ext.refl _ _) hA.sr (.int _)⟩
  · cases hd
def gcdB (ds : List D) : F := optF fun _ => match ds with
  | [.int i, .int j] => some (.int ((Nat.gcd i.natAbs j.natAbs : Nat) : Int))
  | _ => none
theorem bf_gcd : BF G X (.builtin "math.gcd") gcdB := by
  refine ⟨_, cr_gcd, fun W τ m S σ H Q vs ds r hA => ?_⟩
  obtain ⟨d, hd, k⟩ := hA.fin
  split at hd
  · cases hd
    cases r with
    | cons a r =>
      cases r with
      | cons b r => cases r; cases a; cases b; exact ⟨_, _, rfl, k m H _ (Ext.refl _ _) hA.sr (.int _)⟩
  · cases hd
def strB (ds : List D) : F := optF fun _ => match ds with
  | [.int i] => if i.natAbs.log2 < 1920 then some (.str (toString i)) else none
  | _ => none
theorem bf_str : BF G X (.type "str") strB := by
  refine ⟨_, call_str_int, fun W τ m S σ H Q vs ds r hA => ?_⟩
  obtain ⟨d, hd, k⟩ := hA.fin
  split at hd
  · split at hd
    · rename_i hl
      cases hd
      cases r with
      | cons a r => cases r; cases a; exact ⟨_, rfl, hl, k m H _ (Ext.refl _ _) hA.sr (.str _)⟩
    · cases hd
  · cases hd
/-! len -/
def lenB (ds : List D) : F := optF fun S => match ds with
  | [d] => (match getS S d with
    | .tup xs => some (.int xs.length)
    | .lst xs => some (.int xs.length)
    | .str z => if z.length ≤ sizeLine then some (.int z.length) else none
    | _ => none)
  | _ => none
theorem bf_len (hK : X.K = G.K) : BF G X (.builtin "len") lenB := by
  refine ⟨_, call_len_seq.or call_len_str, fun W τ m S σ H Q vs ds r hA => ?_⟩
  obtain ⟨d, hd, k⟩ := hA.fin
  split at hd
  · cases r with
    | cons a r =>
      cases r
      split at hd
      · rename_i q
        cases getS_tup q
        cases hd
        obtain ⟨p, xs, rfl, t1, ra⟩ := a.getT rfl
        exact .inl ⟨p, xs, rfl, .inr (hK ▸ t1), k m H _ (Ext.refl _ _) hA.sr (by rw [ra.length]; exact .int _)⟩
      · rename_i q
        cases hd
        obtain ⟨p, xs, rfl, t1, ra⟩ := a.getL hA.sr q
        exact .inl ⟨p, xs, rfl, .inl (hK ▸ t1.sq), k m H _ (Ext.refl _ _) hA.sr (by rw [ra.length]; exact .int _)⟩
      · rename_i q
        cases getS_str q
        split at hd
        · rename_i hl
          cases hd
          cases a
          exact .inr ⟨_, rfl, hl, k m H _ (Ext.refl _ _) hA.sr (.int _)⟩
        · cases hd
      · cases hd
  · cases hd
/-! tuple(x), list(x) -/
def tupB (ds : List D) : F := fun _ S Q _ => match ds with
  | [d] => (match getS S d with
    | .tup xs => Q (.tup xs) S
    | .lst xs => Q (.tup xs) S
    | _ => False)
  | _ => False
theorem bf_tup (hK : X.K = G.K) : BF G X (.type "tuple") tupB := by
  refine ⟨_, call_tuple_of, fun W τ m S σ H Q vs ds r hA => ?_⟩
  obtain ⟨QD, QE, sr, er, hf, k, px⟩ := hA
  unfold tupB at hf
  split at hf
  · cases r with
    | cons a r =>
      cases r
      split at hf
      · rename_i q
        cases getS_tup q
        obtain ⟨p, xs, rfl, t1, ra⟩ := a.getT rfl
        exact ⟨p, xs, rfl, .inr ⟨hK ▸ t1, k m S H _ _ (Ext.refl _ _) sr a hf⟩⟩
      · rename_i q
        obtain ⟨p, xs, rfl, t1, ra⟩ := a.getL sr q
        exact ⟨p, xs, rfl, .inl ⟨hK ▸ t1.sq, fun l hl => At.newT (W := W) ⟨QD, QE, sr, er, hf, k, px⟩ hl ra⟩⟩
      · exact hf.elim
  · exact hf.elim
def lstB (mu : Bool) (ds : List D) : F := fun τ S Q E => match ds with
  | [d] => (match getS S d with
    | .tup xs => newL mu xs τ S Q E
    | .lst xs => newL mu xs τ S Q E
    | _ => False)
  | _ => False
theorem bf_lst (hK : X.K = G.K) (mu : Bool) : BF G X (.type "list") (lstB mu) := by
  refine ⟨_, call_list_of, fun W τ m S σ H Q vs ds r hA => ?_⟩
  obtain ⟨QD, QE, sr, er, hf, k, px⟩ := hA
  unfold lstB at hf
  split at hf
  · cases r with
    | cons a r =>
      cases r
      split at hf
      · rename_i q
        cases getS_tup q
        obtain ⟨p, xs, rfl, t1, ra⟩ := a.getT rfl
        exact ⟨p, xs, rfl, .inr (hK ▸ t1), fun l hl => At.newL (W := W) ⟨QD, QE, sr, er, hf, k, px⟩ hl ra⟩
      · rename_i q
        obtain ⟨p, xs, rfl, t1, ra⟩ := a.getL sr q
        exact ⟨p, xs, rfl, .inl (hK ▸ t1.sq), fun l hl => At.newL (W := W) ⟨QD, QE, sr, er, hf, k, px⟩ hl ra⟩
      · exact hf.elim
  · exact hf.elim
/-! all, any, sum, max, min -/
def asBl : D → Option Bool
  | .bl b => some b
  | _ => none
def asInt : D → Option Int
  | .int b => some b
  | _ => none
def allSome {α : Type} (f : D → Option α) : List D → Option (List α)
  | [] => some []
  | d :: ds => (f d).bind fun b => (allSome f ds).map fun bs => b :: bs
theorem allSome_bl {m : Mp} {H : Hp} : ∀ {xs : List V} {ds : List D} {bs : List Bool}, RepAll G m H xs ds → allSome asBl ds = some bs → xs = bs.map V.bl
  | _, _, _, .nil, h => by cases h; rfl
  | _, _, _, .cons a r, h => by
    unfold allSome at h
    obtain ⟨b, h1, h2⟩ := Option.bind_eq_some_iff.mp h
    obtain ⟨bs, h3, rfl⟩ := Option.map_eq_some_iff.mp h2
    rw [allSome_bl r h3]
    cases a <;> cases h1
    rfl
theorem allSome_int {m : Mp} {H : Hp} : ∀ {xs : List V} {ds : List D} {bs : List Int}, RepAll G m H xs ds → allSome asInt ds = some bs → xs = bs.map V.int
  | _, _, _, .nil, h => by cases h; rfl
  | _, _, _, .cons a r, h => by
    unfold allSome at h
    obtain ⟨b, h1, h2⟩ := Option.bind_eq_some_iff.mp h
    obtain ⟨bs, h3, rfl⟩ := Option.map_eq_some_iff.mp h2
    rw [allSome_int r h3]
    cases a <;> cases h1
    rfl
def allB (ds : List D) : F := optF fun S => match ds with
  | [d] => (match getS S d with
    | .lst xs => (allSome asBl xs).map fun bs => .bl (bs.all id)
    | _ => none)
  | _ => none
def anyB (ds : List D) : F := optF fun S => match ds with
  | [d] => (match getS S d with
    | .lst xs => (allSome asBl xs).map fun bs => .bl (bs.any id)
    | _ => none)
  | _ => none
theorem bf_all (hK : X.K = G.K) (hc : X.calm = true) : BF G X (.builtin "all") allB := by
  refine ⟨_, cr_all hc, fun W τ m S σ H Q vs ds r hA => ?_⟩
  obtain ⟨d, hd, k⟩ := hA.fin
  split at hd
  · cases r with
    | cons a r =>
      cases r
      split at hd
      · rename_i q
        obtain ⟨bs, h1, rfl⟩ := Option.map_eq_some_iff.mp hd
        obtain ⟨p, xs, rfl, t1, ra⟩ := a.getL hA.sr q
        cases allSome_bl ra h1
        exact ⟨p, bs, rfl, hK ▸ t1.sq, k m H _ (Ext.refl _ _) hA.sr (.bl _)⟩
      · cases hd
  · cases hd
theorem bf_any (hK : X.K = G.K) (hc : X.calm = true) : BF G X (.builtin "any") anyB := by
  refine ⟨_, cr_any hc, fun W τ m S σ H Q vs ds r hA => ?_⟩
  obtain ⟨d, hd, k⟩ := hA.fin
  split at hd
  · cases r with
    | cons a r =>
      cases r
      split at hd
      · rename_i q
        obtain ⟨bs, h1, rfl⟩ := Option.map_eq_some_iff.mp hd
        obtain ⟨p, xs, rfl, t1, ra⟩ := a.getL hA.sr q
        cases allSome_bl ra h1
        exact ⟨p, bs, rfl, hK ▸ t1.sq, k m H _ (Ext.refl _ _) hA.sr (.bl _)⟩
      · cases hd
  · cases hd
def sumB (ds : List D) : F := optF fun S => match ds with
  | [d] => (match getS S d with
    | .lst xs => (allSome asInt xs).map fun bs => .int bs.sum
    | _ => none)
  | _ => none
theorem bf_sum (hK : X.K = G.K) (hc : X.calm = true) : BF G X (.builtin "sum") sumB := by
  refine ⟨_, cr_sum hc, fun W τ m S σ H Q vs ds r hA => ?_⟩
  obtain ⟨d, hd, k⟩ := hA.fin
  split at hd
  · cases r with
    | cons a r =>
      cases r
      split at hd
      · rename_i q
        obtain ⟨bs, h1, rfl⟩ := Option.map_eq_some_iff.mp hd
        obtain ⟨p, xs, rfl, t1, ra⟩ := a.getL hA.sr q
        cases allSome_int ra h1
        exact ⟨p, bs, rfl, hK ▸ t1.sq, k m H _ (Ext.refl _ _) hA.sr (.int _)⟩
      · cases hd
  · cases hd
/-- the greatest, the least of ints -/
def maxL : Int → List Int → Int
  | a, [] => a
  | a, b :: r => maxL (if b > a then b else a) r
def minL : Int → List Int → Int
  | a, [] => a
  | a, b :: r => minL (if b < a then b else a) r
theorem maxL_ge : ∀ (r : List Int) (a : Int), a ≤ maxL a r ∧ (∀ y ∈ r, y ≤ maxL a r) ∧ (maxL a r = a ∨ maxL a r ∈ r)
  | [], a => ⟨Int.le_refl _, fun y h => (nomatch h), .inl rfl⟩
  | b :: r, a => by
    obtain ⟨h1, h2, h3⟩ := maxL_ge r (if b > a then b else a)
    unfold maxL
    refine ⟨?_, fun y hy => ?_, ?_⟩
    · split at h1 <;> split <;> omega
    · rcases List.mem_cons.mp hy with rfl | hy
      · split at h1 <;> split <;> omega
      · exact h2 y hy
    · rcases h3 with h3 | h3
      · rw [h3]
        split
        · exact .inr List.mem_cons_self
        · exact .inl rfl
      · exact .inr (List.mem_cons_of_mem _ h3)
theorem minL_le : ∀ (r : List Int) (a : Int), minL a r ≤ a ∧ (∀ y ∈ r, minL a r ≤ y) ∧ (minL a r = a ∨ minL a r ∈ r)
  | [], a => ⟨Int.le_refl _, fun y h => (nomatch h), .inl rfl⟩
  | b :: r, a => by
    obtain ⟨h1, h2, h3⟩ := minL_le r (if b < a then b else a)
    unfold minL
    refine ⟨?_, fun y hy => ?_, ?_⟩
    · split at h1 <;> split <;> omega
    · rcases List.mem_cons.mp hy with rfl | hy
      · split at h1 <;> split <;> omega
      · exact h2 y hy
    · rcases h3 with h3 | h3
      · rw [h3]
        split
        · exact .inr List.mem_cons_self
        · exact .inl rfl
      · exact .inr (List.mem_cons_of_mem _ h3)
def maxB (ds : List D) : F := optF fun S => match ds with
  | [.int i, .int j] => some (.int (if j > i then j else i))
  | [d] => (match getS S d with
    | .lst xs => (match allSome asInt xs with
      | some (a :: r) => some (.int (maxL a r))
      | _ => none)
    | _ => none)
  | _ => none
def minB (ds : List D) : F := optF fun S => match ds with
  | [.int i, .int j] => some (.int (if j < i then j else i))
  | [d] => (match getS S d with
    | .lst xs => (match allSome asInt xs with
      | some (a :: r) => some (.int (minL a r))
      | _ => none)
    | _ => none)
  | _ => none
theorem bf_max (hK : X.K = G.K) (hc : X.calm = true) : BF G X (.builtin "max") maxB := by
  refine ⟨_, (call_max2 hc).or (cr_max hc), fun W τ m S σ H Q vs ds r hA => ?_⟩
  obtain ⟨d, hd, k⟩ := hA.fin
  split at hd
  · cases hd
    cases r with
    | cons a r =>
      cases r with
      | cons b r => cases r; cases a; cases b; exact .inl ⟨_, _, rfl, k m H _ (Ext.refl _ _) hA.sr (.int _)⟩
  · cases r with
    | cons a r =>
      cases r
      split at hd
      · rename_i q
        split at hd
        · rename_i z rr h1
          cases hd
          obtain ⟨p, xs, rfl, t1, ra⟩ := a.getL hA.sr q
          cases allSome_int ra h1
          refine .inr ⟨p, z :: rr, rfl, hK ▸ t1.sq, by simp, fun mx hm hle => ?_⟩
          obtain ⟨g1, g2, g3⟩ := maxL_ge rr z
          have e : mx = maxL z rr := by
            have a1 : maxL z rr ∈ z :: rr := by
              rcases g3 with g3 | g3
              · rw [g3]; exact List.mem_cons_self
              · exact List.mem_cons_of_mem _ g3
            have a2 := hle _ a1
            rcases List.mem_cons.mp hm with rfl | hm
            · omega
            · have := g2 mx hm; omega
          rw [e]
          exact k m H _ (Ext.refl _ _) hA.sr (.int _)
        · cases hd
      · cases hd
  · cases hd
theorem bf_min (hK : X.K = G.K) (hc : X.calm = true) : BF G X (.builtin "min") minB := by
  refine ⟨_, (call_min2 hc).or (cr_min hc), fun W τ m S σ H Q vs ds r hA => ?_⟩
  obtain ⟨d, hd, k⟩ := hA.fin
  split at hd
  · cases hd
    cases r with
    | cons a r =>
      cases r with
      | cons b r => cases r; cases a; cases b; exact .inl ⟨_, _, rfl, k m H _ (Ext.refl _ _) hA.sr (.int _)⟩
  · cases r with
    | cons a r =>
      cases r
      split at hd
      · rename_i q
        split at hd
        · rename_i z rr h1
          cases hd
          obtain ⟨p, xs, rfl, t1, ra⟩ := a.getL hA.sr q
          cases allSome_int ra h1
          refine .inr ⟨p, z :: rr, rfl, hK ▸ t1.sq, by simp, fun mx hm hle => ?_⟩
          obtain ⟨g1, g2, g3⟩ := minL_le rr z
          have e : mx = minL z rr := by
            have a1 : minL z rr ∈ z :: rr := by
              rcases g3 with g3 | g3
              · rw [g3]; exact List.mem_cons_self
              · exact List.mem_cons_of_mem _ g3
            have a2 := hle _ a1
            rcases List.mem_cons.mp hm with rfl | hm
            · omega
            · have := g2 mx hm; omega
          rw [e]
          exact k m H _ (Ext.refl _ _) hA.sr (.int _)
        · cases hd
      · cases hd
  · cases hd
end

/-! isinstance -/
def tyD (S : Store) (d : D) : Option String := match getS S d with
  | .non => some "NoneType"
  | .bl _ => some "bool"
  | .int _ => some "int"
  | .str _ => some "str"
  | .tup _ => some "tuple"
  | .lst _ => some "list"
  | _ => none
def isiT (t c : String) : Option Bool :=
  if ["NoneType", "bool", "int", "str", "tuple", "list"].contains t && ["bool", "int", "str", "tuple", "list"].contains c then some (t == c || (t == "bool" && c == "int")) else none
theorem isiT_kit {t c : String} {b : Bool} (h : isiT t c = some b) : kitB t c = some b := by
  unfold isiT at h
  split at h
  · rename_i hc
    cases h
    simp only [Bool.and_eq_true, List.contains_eq_mem, decide_eq_true_eq, List.mem_cons, List.not_mem_nil, or_false] at hc
    obtain ⟨h1, h2⟩ := hc
    rcases h1 with rfl | rfl | rfl | rfl | rfl | rfl <;> rcases h2 with rfl | rfl | rfl | rfl | rfl <;> decide +kernel
  · cases h
def isiB (ds : List D) : F := optF fun S => match ds with
  | [d, .ty c] => (tyD S d).bind fun t => (isiT t c).map fun b => .bl b
  | _ => none
section
variable {G : Gr} {X : Cx}
theorem Rep.tyx {m : Mp} {S : Store} {H : Hp} {v : V} {d : D} {t : String} (sr : SR G m S H) (r : Rep G m H v d) (h : tyD S d = some t) : TyX G.K H v (.type t) := by
  unfold tyD at h
  split at h
  · rename_i q; cases getS_non q; cases r; cases h; exact .base .non
  · rename_i q; cases getS_bl q; cases r; cases h; exact .base (.bl _)
  · rename_i q; cases getS_int q; cases r; cases h; exact .base (.int _)
  · rename_i q; cases getS_str q; cases r; cases h; exact .base (.str _)
  · rename_i q
    cases getS_tup q; cases h
    obtain ⟨p, xs, rfl, t1, ra⟩ := r.getT rfl
    rcases t1 with (t1 | ⟨o, t1⟩) | ⟨o, its, n, h1, h2, _⟩
    · exact .base (.tup t1)
    · exact .fTuple t1
    · exact .kTuple h1 h2
  · rename_i q
    cases h
    obtain ⟨p, xs, rfl, t1, ra⟩ := r.getL sr q
    rcases t1 with (t1 | ⟨o, t1⟩) | ⟨its, n, h1, h2, _⟩
    · exact .base (.lst t1)
    · exact .base (.frz t1)
    · exact .kList h1 rfl
  · cases h
theorem bf_isi (hK : X.K = G.K) : BF G X (.builtin "isinstance") isiB := by
  refine ⟨_, call_isi, fun W τ m S σ H Q vs ds r hA => ?_⟩
  obtain ⟨d, hd, k⟩ := hA.fin
  split at hd
  · obtain ⟨t, h1, h2⟩ := Option.bind_eq_some_iff.mp hd
    obtain ⟨b, h3, rfl⟩ := Option.map_eq_some_iff.mp h2
    cases r with
    | cons a r =>
      cases r with
      | cons c r =>
        cases r; cases c
        exact ⟨_, _, .type t, _, b, rfl, .ty _, hK ▸ a.tyx hA.sr h1, kit_ty (isiT_kit h3), k m H _ (Ext.refl _ _) hA.sr (.bl _)⟩
  · cases hd
end

/-! ### a < b < c -/
section
variable {G : Gr} {X : Cx} {W : WX} {a b c e : Expr} {pos p2 : Pos} {fa fb fc : F}
theorem e_chain {op op' : CmpOp} {g g' : D → D → F} (ho : OpF G X (compareOp op) g) (ho' : OpF G X (compareOp op') g') (ha : PE X a (tE G W fa)) (hb : PE X b (tE G W fb)) (hc : PE X c (tE G W fc))
    (hm : lastMarks [op, op'] [b, c] = false) : PE X (.Compare a [op, op'] [b, c] pos) (tE G W (chF g g' fa fb fc)) := by
  obtain ⟨r, hr, k⟩ := ho
  obtain ⟨r', hr', k'⟩ := ho'
  refine PE.imp (pe_chain hr hr' ha hb hc hm) fun σ H Q ⟨τ, m, S, h⟩ => ?_
  refine ⟨τ, m, S, h.seq fun m1 S1 H1 v d e1 sr1 r1 h1 => ⟨τ, m1, S1, h1.seq fun m2 S2 H2 w d' e2 sr2 r2 h2 => ?_⟩⟩
  refine k W τ m2 S2 σ H2 _ v w d d' (r1.mono sr1 e2) r2 (h2.seq fun m3 S3 H3 z dz e3 sr3 r3 h3 => ?_)
  obtain ⟨b, hb, h4⟩ := h3.opt
  split at hb
  · cases hb
    cases r3
    refine ⟨b, rfl, ?_⟩
    cases b with
    | true =>
      rw [if_pos rfl] at h4 ⊢
      exact ⟨τ, m3, S3, h4.seq fun m4 S4 H4 u du e4 sr4 r4 h5 => k' W τ m4 S4 σ H4 Q w u d' du ((r2.mono sr2 e3).mono sr3 e4) r4 h5⟩
    | false =>
      rw [if_neg Bool.false_ne_true] at h4 ⊢
      exact h4.ret m3 H3 _ (Ext.refl _ _) sr3 (.bl _)
  · cases hb
/-- its answer as a test -/
theorem t_chain {op op' : CmpOp} {g g' : D → D → F} (ho : OpF G X (compareOp op) g) (ho' : OpF G X (compareOp op') g') (hg' : ∀ x y τ S Q E, g' x y τ S Q E → g' x y τ S (fun d S' => ∃ b, d = .bl b ∧ Q d S') E) (ha : PE X a (tE G W fa)) (hb : PE X b (tE G W fb)) (hc : PE X c (tE G W fc))
    (hm : lastMarks [op, op'] [b, c] = false) : PT X (.Compare a [op, op'] [b, c] pos) (tT G W (chT g g' fa fb fc)) := by
  obtain ⟨r, hr, k⟩ := ho
  obtain ⟨r', hr', k'⟩ := ho'
  refine PT.imp (pt_chain hr hr' ha hb hc hm) fun σ H Q ⟨τ, m, S, h⟩ => ?_
  refine ⟨τ, m, S, h.seq fun m1 S1 H1 v d e1 sr1 r1 h1 => ⟨τ, m1, S1, h1.seq fun m2 S2 H2 w d' e2 sr2 r2 h2 => ?_⟩⟩
  refine k W τ m2 S2 σ H2 _ v w d d' (r1.mono sr1 e2) r2 (h2.seq fun m3 S3 H3 z dz e3 sr3 r3 h3 => ?_)
  obtain ⟨b, hb, h4⟩ := h3.opt
  split at hb
  · cases hb
    cases r3
    refine ⟨b, rfl, ?_⟩
    cases b with
    | true =>
      rw [if_pos rfl] at h4 ⊢
      refine ⟨τ, m3, S3, At.seq (ρ' := rB) h4 fun m4 S4 H4 u du e4 sr4 r4 h5 => k' W τ m4 S4 σ H4 _ w u d' du ((r2.mono sr2 e3).mono sr3 e4) r4 ?_⟩
      obtain ⟨QD, QE, sr, er, hf, kk, px⟩ := h5
      refine ⟨_, QE, sr, er, hg' _ _ _ _ _ _ hf, fun m5 S5 H5 u5 x5 e5 sr5 r5 q5 => ?_, px⟩
      obtain ⟨b, rfl, q5⟩ := q5
      cases r5
      exact ⟨b, rfl, kk m5 S5 H5 b b e5 sr5 rfl q5⟩
    | false =>
      rw [if_neg Bool.false_ne_true] at h4 ⊢
      obtain ⟨QD, QE, sr, er, hf, kk, px⟩ := h4
      exact ⟨false, rfl, kk m3 S3 H3 false false (Ext.refl _ _) sr3 rfl hf⟩
  · cases hb
end
end Dx

set_option Elab.async false
set_option linter.all false
set_option maxRecDepth 100000
set_option maxHeartbeats 4000000
/-! DX, part 7: statements. -/
namespace Dx
open PySem PySem.Spec PyProof.Rows L2

structure DEnds where
  nx : Env → Store → Prop
  rt : D → Store → Prop
  bk : Env → Store → Prop := fun _ _ => False
  ct : Env → Store → Prop := fun _ _ => False
  ex : Ex → Env → Store → Prop := fun _ _ _ => False
abbrev FS := DEnds → Env → Store → Prop

section
variable (G : Gr)
def PNx (m : Mp) (H : Hp) (P : Env → Store → Prop) (Q : L2.St → Hp → Prop) : Prop :=
  ∀ (m' : Mp) (S' : Store) (H' : Hp) (σ' : L2.St) (τ' : Env), Ext m H m' H' → SR G m' S' H' → EnvR G m' H' σ' τ' → P τ' S' → Q σ' H'
structure PEnds (W : WX) (m : Mp) (H : Hp) (E : DEnds) (D : Ends) : Prop where
  nx : PNx G m H E.nx D.nx
  rt : PostG G (rV G) m H E.rt D.rt
  bk : PNx G m H E.bk D.bk
  ct : PNx G m H E.ct D.ct
  ex : ∀ (m' : Mp) (S' : Store) (H' : Hp) (σ' : L2.St) (τ' : Env) (cls : Value) (dd : Option Addr) (x : Ex), Ext m H m' H' → SR G m' S' H' → EnvR G m' H' σ' τ' → RepX G m' H' cls dd x → E.ex x τ' S' → W cls dd σ' H'
def AtS (W : WX) (f : FS) (D : Ends) (τ : Env) (m : Mp) (S : Store) (σ : L2.St) (H : Hp) : Prop :=
  ∃ E : DEnds, SR G m S H ∧ EnvR G m H σ τ ∧ f E τ S ∧ PEnds G W m H E D
def tS (W : WX) (f : FS) : TS := fun D σ H => ∃ τ m S, AtS G W f D τ m S σ H
end
section
variable {G : Gr} {W : WX} {m m' : Mp} {S S' : Store} {H H' : Hp} {σ σ' : L2.St} {τ τ' : Env} {E E' : DEnds} {D D' : Ends}
theorem PNx.mono {P : Env → Store → Prop} {Q : L2.St → Hp → Prop} (p : PNx G m H P Q) (e : Ext m H m' H') : PNx G m' H' P Q := fun m2 S2 H2 s t e2 sr er q => p m2 S2 H2 s t (e.trans e2) sr er q
theorem PEnds.mono (p : PEnds G W m H E D) (e : Ext m H m' H') : PEnds G W m' H' E D :=
  ⟨p.nx.mono e, p.rt.mono e, p.bk.mono e, p.ct.mono e, fun m2 S2 H2 s t c d x e2 sr er r q => p.ex m2 S2 H2 s t c d x (e.trans e2) sr er r q⟩
/-- the wish of an expression within a statement -/
theorem PEnds.px (p : PEnds G W m H E D) (er : EnvR G m H σ τ) (sr : SR G m S H) : PostX G m H (fun x S' => E.ex x τ S') σ W :=
  fun m' S' H' cls dd x e sr' r q => p.ex m' S' H' σ τ cls dd x e sr' (er.mono sr e) r q
/-- an expression ahead of a statement's end -/
theorem AtS.expr {α β : Type} {ρ : Rl α β} {f : FG β} {g : β → DEnds → Env → Store → Prop} {R : α → Hp → Prop} (h : AtS G W (fun E τ S => f τ S (fun d S' => g d E τ S') (fun x S' => E.ex x τ S')) D τ m S σ H)
    (k : ∀ (m1 : Mp) (S1 : Store) (H1 : Hp) (v : α) (d : β), Ext m H m1 H1 → SR G m1 S1 H1 → ρ m1 H1 v d → AtS G W (g d) D τ m1 S1 σ H1 → R v H1) : At G ρ W f τ m S σ H R := by
  obtain ⟨E, sr, er, hf, p⟩ := h
  refine ⟨fun d S' => g d E τ S', fun x S' => E.ex x τ S', sr, er, hf, fun m1 S1 H1 v d e sr1 r q => ?_, p.px er sr⟩
  exact k m1 S1 H1 v d e sr1 r ⟨E, sr1, er.mono sr e, q, p.mono e⟩
end

def nilS : FS := fun E τ S => E.nx τ S
def seqS (f g : FS) : FS := fun E τ S => f { E with nx := fun τ' S' => g E τ' S' } τ S
def setS (i : Nat) (f : F) : FS := fun E τ S => f τ S (fun d S' => E.nx (τ.set i (some d)) S') (fun x S' => E.ex x τ S')
def exprS (f : F) : FS := fun E τ S => f τ S (fun _ S' => E.nx τ S') (fun x S' => E.ex x τ S')
def retS (f : F) : FS := fun E τ S => f τ S (fun d S' => E.rt d S') (fun x S' => E.ex x τ S')
def retN : FS := fun E _ S => E.rt .non S
def brkS : FS := fun E τ S => E.bk τ S
def cntS : FS := fun E τ S => E.ct τ S
def ifS (t : FG Bool) (f g : FS) : FS := fun E τ S => t τ S (fun b S' => if b = true then f E τ S' else g E τ S') (fun x S' => E.ex x τ S')
def whileS (t : FG Bool) (body : FS) : FS := fun E τ S => ∃ I : Nat → Env → Store → Prop, (∃ n, I n τ S) ∧ ∀ n τ S, I n τ S →
  t τ S (fun b S' => if b = true then body { E with nx := fun τ' S'' => ∃ n', n' < n ∧ I n' τ' S'', ct := fun τ' S'' => ∃ n', n' < n ∧ I n' τ' S'', bk := E.nx } τ S' else E.nx τ S') (fun x S' => E.ex x τ S')

section
variable {G : Gr} {X : Cx} {W : WX} {st : Stmt} {rest : List Stmt} {f g : FS} {fe fo fi : F} {t : FG Bool} {e o i : Expr} {pos pos' : Pos}
theorem ss_nil : PSs X [] (tS G W nilS) := PSs.imp pss_nil fun D σ H ⟨τ, m, S, E, sr, er, hf, p⟩ => p.nx m S H σ τ (Ext.refl _ _) sr er hf
theorem ss_cons (h1 : PS X st (tS G W f)) (h2 : PSs X rest (tS G W g)) : PSs X (st :: rest) (tS G W (seqS f g)) :=
  PSs.imp (pss_cons h1 h2) fun D σ H ⟨τ, m, S, E, sr, er, hf, p⟩ => ⟨τ, m, S, _, sr, er, hf, ⟨fun m1 S1 H1 s1 t1 e1 sr1 er1 q => ⟨t1, m1, S1, E, sr1, er1, q, p.mono e1⟩, p.rt, p.bk, p.ct, p.ex⟩⟩
theorem ss_one (h1 : PS X st (tS G W f)) : PSs X [st] (tS G W f) := pss_one h1
theorem s_pass : PS X (.Pass pos) (tS G W nilS) := PS.imp ps_pass fun D σ H ⟨τ, m, S, E, sr, er, hf, p⟩ => p.nx m S H σ τ (Ext.refl _ _) sr er hf
theorem s_brk : PS X (.Break pos) (tS G W brkS) := PS.imp ps_break fun D σ H ⟨τ, m, S, E, sr, er, hf, p⟩ => p.bk m S H σ τ (Ext.refl _ _) sr er hf
theorem s_cnt : PS X (.Continue pos) (tS G W cntS) := PS.imp ps_continue fun D σ H ⟨τ, m, S, E, sr, er, hf, p⟩ => p.ct m S H σ τ (Ext.refl _ _) sr er hf
theorem s_ret (he : PE X e (tE G W fe)) : PS X (.Return (some e) pos) (tS G W (retS fe)) :=
  PS.imp (ps_ret he) fun D σ H ⟨τ, m, S, h⟩ => ⟨τ, m, S, AtS.expr (g := fun d E τ S => E.rt d S) h fun m1 S1 H1 v d e1 sr1 r1 ⟨E, sr, er, hf, p⟩ => p.rt m1 S1 H1 v d (Ext.refl _ _) sr r1 hf⟩
theorem s_retN : PS X (.Return none pos) (tS G W retN) := PS.imp ps_retN fun D σ H ⟨τ, m, S, E, sr, er, hf, p⟩ => p.rt m S H .non .non (Ext.refl _ _) sr .non hf
theorem s_expr (he : PE X e (tE G W fe)) (hs : swapsWith e none pos.line X.env = pure false) : PS X (.Expr e pos) (tS G W (exprS fe)) :=
  PS.imp (ps_expr he hs) fun D σ H ⟨τ, m, S, h⟩ => ⟨τ, m, S, AtS.expr (g := fun d E τ S => E.nx τ S) h fun m1 S1 H1 v d e1 sr1 r1 ⟨E, sr, er, hf, p⟩ => p.nx m1 S1 H1 σ τ (Ext.refl _ _) sr er hf⟩
theorem s_set {n : Nat} {x : Str} (hN : X.N.Nodup) (hi : X.N[n]? = some x) (hx : Loc X.env.scope x) (he : PE X e (tE G W fe)) (hs : swapsWith e (some (.Name x pos')) pos.line X.env = pure false) (hf : X.fn x = true ∨ X.env.scope.names.lookup x = some .local) :
    PS X (.Assign [.Name x pos'] e pos) (tS G W (setS n fe)) :=
  PS.imp (ps_set hN hi hx he hs hf) fun D σ H ⟨τ, m, S, h⟩ => ⟨τ, m, S, AtS.expr (g := fun d E τ S => E.nx (τ.set n (some d)) S) h fun m1 S1 H1 v d e1 sr1 r1 ⟨E, sr, er, hf, p⟩ => p.nx m1 S1 H1 _ _ (Ext.refl _ _) sr (er.set r1 n) hf⟩
theorem s_if {c : Expr} {a b : List Stmt} (hc : PT X c (tT G W t)) (ha : PSs X a (tS G W f)) (hb : PSs X b (tS G W g)) : PS X (.If c a b pos) (tS G W (ifS t f g)) :=
  PS.imp (ps_if hc ha hb) fun D σ H ⟨τ, m, S, h⟩ => ⟨τ, m, S, AtS.expr (ρ := rB) (g := fun b E τ S => if b = true then f E τ S else g E τ S) h fun m1 S1 H1 v d e1 sr1 r1 ⟨E, sr, er, hf, p⟩ => by
    cases (show v = d from r1)
    cases v with
    | true => rw [if_pos rfl] at hf ⊢; exact ⟨τ, m1, S1, E, sr, er, hf, p⟩
    | false => rw [if_neg Bool.false_ne_true] at hf ⊢; exact ⟨τ, m1, S1, E, sr, er, hf, p⟩⟩
theorem s_while {c : Expr} {body : List Stmt} (hp : PassesOwn (model X.prog X.w) X.A X.env X.xe) (hc : PT X c (tT G W t)) (hb : PSs X body (tS G W f)) : PS X (.While c body [] pos) (tS G W (whileS t f)) :=
  PS.imp (ps_while hp hc hb) fun D σ H ⟨τ, m, S, E, sr, er, ⟨I, ⟨n0, i0⟩, turn⟩, p⟩ => by
    refine ⟨fun n σ' H' => ∃ τ' m' S', Ext m H m' H' ∧ SR G m' S' H' ∧ EnvR G m' H' σ' τ' ∧ I n τ' S', ⟨n0, τ, m, S, Ext.refl _ _, sr, er, i0⟩, ?_⟩
    rintro n σ1 H1 ⟨τ1, m1, S1, e1, sr1, er1, i1⟩
    have p1 := p.mono e1
    refine ⟨τ1, m1, S1, _, fun x S' => E.ex x τ1 S', sr1, er1, turn n τ1 S1 i1, fun m2 S2 H2 b b' e2 sr2 r2 q2 => ?_, p1.px er1 sr1⟩
    cases (show b = b' from r2)
    cases b with
    | true =>
      rw [if_pos rfl] at q2 ⊢
      refine ⟨fun σ' H' => ∃ n' τ' m' S', n' < n ∧ Ext m H m' H' ∧ SR G m' S' H' ∧ EnvR G m' H' σ' τ' ∧ I n' τ' S', fun σ' H' ⟨n', τ', m', S', hn, a, b, c, d⟩ => ⟨n', hn, τ', m', S', a, b, c, d⟩, τ1, m2, S2, _, sr2, er1.mono sr1 e2, q2, ?_⟩
      have e12 := e1.trans e2
      have p2 := p.mono e12
      exact ⟨fun m3 S3 H3 s t e3 sr3 er3 ⟨n', hn, q⟩ => ⟨n', t, m3, S3, hn, e12.trans e3, sr3, er3, q⟩, p2.rt, p2.nx, fun m3 S3 H3 s t e3 sr3 er3 ⟨n', hn, q⟩ => ⟨n', t, m3, S3, hn, e12.trans e3, sr3, er3, q⟩, p2.ex⟩
    | false =>
      rw [if_neg Bool.false_ne_true] at q2 ⊢
      exact p1.nx m2 S2 H2 σ1 τ1 e2 sr2 (er1.mono sr1 e2) q2
end

/-! ### targets -/
inductive Tg where
  | name (i : Nat)
  | tup (ts : List Tg)
  deriving Inhabited
mutual
def bindT : Tg → D → Env → Option Env
  | .name i, d, τ => some (τ.set i (some d))
  | .tup ts, .tup ds, τ => bindTs ts ds τ
  | .tup _, _, _ => none
def bindTs : List Tg → List D → Env → Option Env
  | [], [], τ => some τ
  | t :: ts, d :: ds, τ => (bindT t d τ).bind fun τ' => bindTs ts ds τ'
  | _, _, _ => none
end
mutual
def slotsT : Tg → List Nat
  | .name i => [i]
  | .tup ts => slotsTs ts
def slotsTs : List Tg → List Nat
  | [] => []
  | t :: ts => slotsT t ++ slotsTs ts
end
/-- only these slots are another -/
def SameBut (l : List Nat) (σ σ' : L2.St) : Prop := σ'.length = σ.length ∧ ∀ i, i ∉ l → σ'[i]? = σ[i]?
theorem SameBut.trans {l l' : List Nat} {σ σ1 σ2 : L2.St} (a : SameBut l σ σ1) (b : SameBut l' σ1 σ2) : SameBut (l ++ l') σ σ2 :=
  ⟨b.1.trans a.1, fun i h => by
    simp only [List.mem_append, not_or] at h
    exact (b.2 i h.2).trans (a.2 i h.1)⟩
/-- a target's reading, by plain data -/
def GOk (G : Gr) (X : Cx) (target : Expr) (t : Tg) : Prop :=
  ∃ g : TG, PG X target g ∧ ∀ (m : Mp) (S : Store) (H : Hp) (σ : L2.St) (τ τ' : Env) (v : V) (d : D) (Q : L2.St → Hp → Prop), SR G m S H → EnvR G m H σ τ → Rep G m H v d → bindT t d τ = some τ' → (∀ σ', EnvR G m H σ' τ' → SameBut (slotsT t) σ σ' → Q σ' H) → g v σ H Q
def GsOk (G : Gr) (X : Cx) (es : List Expr) (ts : List Tg) : Prop :=
  ∃ g : TGs, PGs X es g ∧ ∀ (m : Mp) (S : Store) (H : Hp) (σ : L2.St) (τ τ' : Env) (vs : List V) (ds : List D) (Q : L2.St → Hp → Prop), SR G m S H → EnvR G m H σ τ → RepAll G m H vs ds → bindTs ts ds τ = some τ' → (∀ σ', EnvR G m H σ' τ' → SameBut (slotsTs ts) σ σ' → Q σ' H) → g vs σ H Q
section
variable {G : Gr} {X : Cx} {pos : Pos}
theorem g_name {i : Nat} {x : Str} (hN : X.N.Nodup) (hi : X.N[i]? = some x) (hx : Loc X.env.scope x) (hf : X.fn x = true ∨ X.env.scope.names.lookup x = some .local) : GOk G X (.Name x pos) (.name i) :=
  ⟨gName i, pg_name hN hi hx hf, fun m S H σ τ τ' v d Q sr er r h k => by
    simp only [bindT] at h
    cases h
    exact k _ (er.set r i) ⟨by simp, fun j hj => List.getElem?_set_ne (fun e => hj (by simp [slotsT, e]))⟩⟩
theorem gs_nil : GsOk G X [] [] :=
  ⟨gNil, pgs_nil, fun m S H σ τ τ' vs ds Q sr er r h k => by
    cases r with
    | nil => simp only [bindTs] at h; cases h; exact ⟨rfl, k σ er ⟨rfl, fun _ _ => rfl⟩⟩
    | cons a r => simp only [bindTs] at h; cases h⟩
theorem gs_cons {e : Expr} {es : List Expr} {t : Tg} {ts : List Tg} (h1 : GOk G X e t) (h2 : GsOk G X es ts) (hs : (assignEach (e :: es) X.env).map (·.2) = assign e X.env :: (assignEach es X.env).map (·.2)) : GsOk G X (e :: es) (t :: ts) := by
  obtain ⟨g1, p1, k1⟩ := h1
  obtain ⟨g2, p2, k2⟩ := h2
  refine ⟨gCons g1 g2, pgs_cons p1 p2 hs, fun m S H σ τ τ' vs ds Q sr er r h k => ?_⟩
  cases r with
  | nil => simp only [bindTs] at h; cases h
  | cons a r =>
    simp only [bindTs] at h
    obtain ⟨τ1, h3, h4⟩ := Option.bind_eq_some_iff.mp h
    exact ⟨_, _, rfl, k1 m S H σ τ τ1 _ _ _ sr er a h3 fun σ1 er1 s1 => k2 m S H σ1 τ1 τ' _ _ Q sr er1 r h4 fun σ2 er2 s2 => k σ2 er2 (s1.trans s2)⟩
theorem bindTs_len : ∀ (ts : List Tg) (ds : List D) (τ τ' : Env), bindTs ts ds τ = some τ' → ts.length = ds.length := by
  intro ts
  induction ts with
  | nil => intro ds τ τ' h; cases ds <;> simp [bindTs] at h ⊢
  | cons t ts ih =>
    intro ds τ τ' h
    cases ds with
    | nil => simp [bindTs] at h
    | cons d ds =>
      simp only [bindTs] at h
      obtain ⟨τ1, h3, h4⟩ := Option.bind_eq_some_iff.mp h
      simp [ih ds τ1 τ' h4]
theorem g_tup {es : List Expr} {kk : Nat} {ts : List Tg} {n : Nat} (hK : X.K = G.K) (hc : X.calm = true) (h : GsOk G X es ts) (hl : ts.length = n) (hn : (assignEach es X.env).length = n) (hst : (assignEach es X.env).findIdx? (·.1) = none) : GOk G X (.Tuple es kk pos) (.tup ts) := by
  obtain ⟨g, p, k⟩ := h
  refine ⟨gTup X.K n g, pg_tup hc p hn hst, fun m S H σ τ τ' v d Q sr er r h kk => ?_⟩
  cases d with
  | tup ds =>
    simp only [bindT] at h
    obtain ⟨a, xs, rfl, t1, ra⟩ := r.getT rfl
    refine ⟨a, xs, rfl, hK ▸ t1, ?_, k m S H σ τ τ' xs ds Q sr er ra h fun σ' e s => kk σ' e (by simpa [slotsT] using s)⟩
    rw [ra.length, ← bindTs_len ts ds τ τ' h, hl]
  | _ => simp [bindT] at h
end
def asgS (t : Tg) (f : F) : FS := fun E τ S => f τ S (fun d S' => match bindT t d τ with | some τ' => E.nx τ' S' | none => False) (fun x S' => E.ex x τ S')
def parS (i j : Nat) (f : FG (List D)) : FS := fun E τ S => f τ S (fun ds S' => match ds with | [a, b] => E.nx ((τ.set i (some a)).set j (some b)) S' | _ => False) (fun x S' => E.ex x τ S')
def par3S (i j l : Nat) (f : FG (List D)) : FS := fun E τ S => f τ S (fun ds S' => match ds with | [a, b, c] => E.nx (((τ.set i (some a)).set j (some b)).set l (some c)) S' | _ => False) (fun x S' => E.ex x τ S')
/-- o[i] = e, a list of the store -/
def subS (fe fo fi : F) : FS := fun E τ S => bindF fe (fun d => bindF fo fun o => bindF fi fun i => fun τ S Q _ => match o, i with
  | .obj n, .int k => (match S[n]? with
    | some (.lst ds) => (match ixN ds.length k with
      | some j => Q () (S.set n (.lst (ds.set j d)))
      | none => False)
    | _ => False)
  | _, _ => False) τ S (fun _ S' => E.nx τ S') (fun x S' => E.ex x τ S')
theorem live_of {G : Gr} {m : Mp} {S : Store} {H : Hp} {n : Nat} {v : V} {ds : List D} (sr : SR G m S H) (r : Rep G m H v (.obj n)) (h : S[n]? = some (.lst ds)) : ∃ a xs, v = .ref a ∧ m.sl[n]? = some (some a) ∧ H a = some (.lst xs) ∧ RepAll G m H xs ds := by
  cases r with
  | @obj _ a h1 h2 =>
    cases q : m.sl[n]? with
    | none => rw [List.getElem?_eq_none_iff] at q; omega
    | some o =>
      cases o with
      | none =>
        have z := sr.dead n q
        rw [h] at z; cases z
      | some b =>
        have e := h2 b q
        subst e
        obtain ⟨xs, hx, rx⟩ := sr.at_ n b _ q h
        exact ⟨b, xs, rfl, rfl, hx, rx⟩
section
variable {G : Gr} {X : Cx} {W : WX} {fe fo fi : F} {fa : FG (List D)} {e o i tg : Expr} {pos pos' : Pos} {t : Tg}
theorem s_asg (he : PE X e (tE G W fe)) (hg : GOk G X tg t) (hs : swapsWithSole [tg] e pos.line X.env = pure false) (hw : swappedStores [tg] e X.env = pure none) (h1 : (assignEach [tg] X.env).map (·.2) = [assign tg X.env]) : PS X (.Assign [tg] e pos) (tS G W (asgS t fe)) := by
  obtain ⟨g, p, k⟩ := hg
  refine PS.imp (ps_asg he p hs hw h1) fun D σ H ⟨τ, m, S, h⟩ => ⟨τ, m, S, AtS.expr (g := fun d E τ S => match bindT t d τ with | some τ' => E.nx τ' S | none => False) h fun m1 S1 H1 v d e1 sr1 r1 ⟨E, sr, er, hf, p⟩ => ?_⟩
  dsimp only at hf
  cases q : bindT t d τ with
  | none => rw [q] at hf; exact hf.elim
  | some τ' => rw [q] at hf; exact k m1 S1 H1 σ τ τ' v d D.nx sr er r1 q fun σ' er' _ => p.nx m1 S1 H1 σ' τ' (Ext.refl _ _) sr er' hf
theorem s_par {i j : Nat} {x y : Str} {a b : Expr} {px py pt : Pos} {kt k2 pt2} (hc : X.calm = true) (hN : X.N.Nodup) (hi : X.N[i]? = some x) (hj : X.N[j]? = some y) (hij : i ≠ j)
    (hx : X.env.scope.names.lookup x = some .local) (hy : X.env.scope.names.lookup y = some .local) (ha : PA X [a, b] (tA G W fa))
    (hw : swappedStores [.Tuple [.Name x px, .Name y py] kt pt] (.Tuple [a, b] k2 pt2) X.env = pure (some [x, y]))
    (hs : swapsWithSole [.Tuple [.Name x px, .Name y py] kt pt] (.Tuple [a, b] k2 pt2) pos.line X.env = pure false) :
    PS X (.Assign [.Tuple [.Name x px, .Name y py] kt pt] (.Tuple [a, b] k2 pt2) pos) (tS G W (parS i j fa)) :=
  PS.imp (ps_par hc hN hi hj hij hx hy ha hw hs) fun D σ H ⟨τ, m, S, h⟩ => ⟨τ, m, S, AtS.expr (ρ := rA G) (g := fun ds E τ S => match ds with | [a, b] => E.nx ((τ.set i (some a)).set j (some b)) S | _ => False) h fun m1 S1 H1 vs ds e1 sr1 r1 ⟨E, sr, er, hf, p⟩ => by
    dsimp only at hf
    split at hf
    · cases r1 with
      | cons r1 rr =>
        cases rr with
        | cons r2 rr =>
          cases rr
          exact ⟨_, _, rfl, p.nx m1 S1 H1 _ _ (Ext.refl _ _) sr ((er.set r1 i).set r2 j) hf⟩
    · exact hf.elim⟩
theorem s_par3 {i j l : Nat} {x y z : Str} {a b c : Expr} {px py pz pt : Pos} {kt k2 pt2} (hc : X.calm = true) (hN : X.N.Nodup) (hi : X.N[i]? = some x) (hj : X.N[j]? = some y) (hl : X.N[l]? = some z) (hij : i ≠ j) (hil : i ≠ l) (hjl : j ≠ l)
    (hx : X.env.scope.names.lookup x = some .local) (hy : X.env.scope.names.lookup y = some .local) (hz : X.env.scope.names.lookup z = some .local) (ha : PA X [a, b, c] (tA G W fa))
    (hw : swappedStores [.Tuple [.Name x px, .Name y py, .Name z pz] kt pt] (.Tuple [a, b, c] k2 pt2) X.env = pure (some [x, y, z]))
    (hs : swapsWithSole [.Tuple [.Name x px, .Name y py, .Name z pz] kt pt] (.Tuple [a, b, c] k2 pt2) pos.line X.env = pure false) :
    PS X (.Assign [.Tuple [.Name x px, .Name y py, .Name z pz] kt pt] (.Tuple [a, b, c] k2 pt2) pos) (tS G W (par3S i j l fa)) :=
  PS.imp (ps_par3 hc hN hi hj hl hij hil hjl hx hy hz ha hw hs) fun D σ H ⟨τ, m, S, h⟩ => ⟨τ, m, S, AtS.expr (ρ := rA G) (g := fun ds E τ S => match ds with | [a, b, c] => E.nx (((τ.set i (some a)).set j (some b)).set l (some c)) S | _ => False) h fun m1 S1 H1 vs ds e1 sr1 r1 ⟨E, sr, er, hf, p⟩ => by
    dsimp only at hf
    split at hf
    · cases r1 with
      | cons r1 rr =>
        cases rr with
        | cons r2 rr =>
          cases rr with
          | cons r3 rr =>
            cases rr
            exact ⟨_, _, _, rfl, p.nx m1 S1 H1 _ _ (Ext.refl _ _) sr (((er.set r1 i).set r2 j).set r3 l) hf⟩
    · exact hf.elim⟩
theorem s_sub {sp : Pos} (he : PE X e (tE G W fe)) (ho : PE X o (tE G W fo)) (hi : PE X i (tE G W fi))
    (ha : ∀ v, assign (.Subscript o i sp) X.env v = (do
      let ov ← holding [v] (eval o X.env)
      let iv ← holding [v, ov] (eval i X.env)
      standAt sp
      holding [v, ov, iv] (setItem ov iv v)
      release [v, ov, iv] []))
    (hs : swapsWithSole [.Subscript o i sp] e pos.line X.env = pure false) (hw : swappedStores [.Subscript o i sp] e X.env = pure none) (h1 : (assignEach [.Subscript o i sp] X.env).map (·.2) = [assign (.Subscript o i sp) X.env]) :
    PS X (.Assign [.Subscript o i sp] e pos) (tS G W (subS fe fo fi)) := by
  refine PS.imp (ps_asg he (pg_sub ho hi set_list ha) hs hw h1) fun D σ H ⟨τ, m, S, E, sr, er, hf, p⟩ => ?_
  have hA : At G (fun _ _ (_ : Unit) (_ : Unit) => True) W (bindF fe (fun d => bindF fo fun o => bindF fi fun i => fun τ S Q _ => match o, i with
    | .obj n, .int k => (match S[n]? with
      | some (.lst ds) => (match ixN ds.length k with
        | some j => Q () (S.set n (.lst (ds.set j d)))
        | none => False)
      | _ => False)
    | _, _ => False)) τ m S σ H (fun _ H' => D.nx σ H') :=
    ⟨fun _ S' => E.nx τ S', fun x S' => E.ex x τ S', sr, er, hf, fun m1 S1 H1 _ _ e1 sr1 _ q => p.nx m1 S1 H1 σ τ e1 sr1 (er.mono sr e1) q, p.px er sr⟩
  refine ⟨τ, m, S, hA.seq fun m1 S1 H1 v d e1 sr1 r1 h1 => ⟨τ, m1, S1, h1.seq fun m2 S2 H2 ov od e2 sr2 r2 h2 => ⟨τ, m2, S2, h2.seq fun m3 S3 H3 iv id e3 sr3 r3 h3 => ?_⟩⟩⟩
  obtain ⟨QD, QE, sr, er, hf, k, px⟩ := h3
  split at hf
  · split at hf
    · rename_i ds hs
      split at hf
      · rename_i j hj
        cases r3
        obtain ⟨a, xs, rfl, hm, hH, rx⟩ := live_of sr (r2.mono sr2 e3) hs
        exact ⟨a, xs, _, j, rfl, rfl, hH, by rw [rx.length]; exact hj, k m3 _ _ () () (Ext.write sr hm) (sr.write hm (rx.set ((r1.mono sr1 e2).mono sr2 e3) j)) trivial hf⟩
      · exact hf.elim
    · exact hf.elim
  · exact hf.elim
end
end Dx

set_option Elab.async false
set_option linter.all false
set_option maxRecDepth 100000
set_option maxHeartbeats 4000000
/-! DX, part 8: what is walked, for, comprehensions. -/
namespace Dx
open PySem PySem.Spec PyProof.Rows L2

/-- what a loop walks: its items, and what must stand at each turn -/
abbrev Its' := List D × (Store → Prop)
structure JOk (G : Gr) (J : It) (ds : List D) (chk : Store → Prop) (Src : Mp → Store → Hp → Prop) : Prop where
  mono : ∀ (m : Mp) (S : Store) (H : Hp) (m' : Mp) (S' : Store) (H' : Hp), SR G m S H → SR G m' S' H' → Ext0 m H m' H' → Src m S H → Src m' S' H'
  go : ∀ (i : Nat) (d : D) (m : Mp) (S : Store) (H : Hp), SR G m S H → Src m S H → chk S → ds[i]? = some d → J.go i H ∧ ∀ v H', J.yld i H v H' → Ext m H m H' ∧ SR G m S H' ∧ Rep G m H' v d
  stop : ∀ (i : Nat) (m : Mp) (S : Store) (H : Hp), SR G m S H → Src m S H → chk S → ds.length ≤ i → J.stop i H
section
variable (G : Gr)
abbrev rI : Rl It Its' := fun m H J p => ∃ Src, JOk G J p.1 p.2 Src ∧ ∀ S, SR G m S H → Src m S H
def tI (W : WX) (f : FG Its') : TI := fun σ H R => ∃ τ m S, At G (rI G) W f τ m S σ H R
end
theorem PI.imp {X : Cx} {tg e : Expr} {t t' : TI} (h : PI X tg e t) (k : ∀ σ H R, t' σ H R → t σ H R) : PI X tg e t' := ⟨fun pins s σ H R I q => h.run pins s σ H R I (k σ H R q)⟩

/-! ### lists, tuples, texts -/
section
variable {X : Cx} {tg : Expr}
def iAny (K : PySem.W.Frag) (tl : TE) : TI := fun σ H R => tl σ H fun x H1 => (∃ a, x = .ref a ∧ (∃ xs, SqL K H1 a xs) ∧ R (Itl K a) H1) ∨ (∃ a, x = .ref a ∧ (∃ xs, SqT K H1 a xs) ∧ R (Itt K a) H1) ∨ ∃ z, x = .str z ∧ R (Its z) H1
theorem pi_any {l : Expr} {tl : TE} (hl : PE X l tl) : PI X tg l (iAny X.K tl) := by
  refine ⟨fun pins s σ H R I h => ?_⟩
  refine thn (hl.run pins s σ H _ I h) fun v s1 ⟨x, H1, I1, r1, q1⟩ => ?_
  rcases q1 with ⟨a, e, ⟨xs, hq⟩, q⟩ | ⟨a, e, ⟨xs, hq⟩, q⟩ | ⟨x, ex, q⟩
  · subst e
    cases r1
    obtain ⟨its, rv, p, hz⟩ := I1.list hq
    refine wpAny_pyIter_list p.isList ?_
    refine ⟨s1.heap.objs.size, [s1.heap.objs.size], _, _, H1, rfl, I1.kept (t' := s1.toks) fun b o e => Heap.get?_push_of_some _ e, turn_list a _, ⟨_, Heap.get?_push_size _ rfl, rfl, rfl⟩, fun b hb => ?_, q⟩
    have e : b = s1.heap.objs.size := by simpa using hb
    subst e
    exact I1.fpOk (Nat.le_refl _) (I1.hok.fresh (Nat.le_refl _))
  · subst e
    cases r1
    obtain ⟨its, rv, p, hz⟩ := I1.tuple hq
    refine wpAny_pyIter_tuple (show s1.heap.IsTuple a its.toArray from p) ?_
    refine ⟨s1.heap.objs.size, [s1.heap.objs.size], _, _, H1, rfl, I1.kept (t' := s1.toks) fun b o e => Heap.get?_push_of_some _ e, turn_tuple a _, ⟨_, Heap.get?_push_size _ rfl, rfl, rfl⟩, fun b hb => ?_, q⟩
    have e : b = s1.heap.objs.size := by simpa using hb
    subst e
    exact I1.fpOk (Nat.le_refl _) (I1.hok.fresh (Nat.le_refl _))
  · subst ex
    obtain ⟨t, rfl⟩ := r1
    cases ha : x.cps.all (· < 128)
    · exact wpAny_pyIter_wide ha (pi_one (tk := s1.toks) I1 _ (turn_str _ x t "str_iterator" (.inr rfl)) ⟨_, Heap.get?_push_size _ rfl, rfl, rfl⟩ q)
    · exact wpAny_pyIter_ascii ha (pi_one (tk := s1.toks) I1 _ (turn_str _ x t "str_ascii_iterator" (.inl rfl)) ⟨_, Heap.get?_push_size _ rfl, rfl, rfl⟩ q)
end
def strItems (z : Str) : List D := z.cps.toList.map fun c => .str ⟨#[c]⟩
/-- the items of a value -/
def itsF (d : D) : FG Its' := fun _ S Q _ => match getS S d with
  | .tup ds => Q (ds, fun _ => True) S
  | .lst ds => Q (ds, fun S' => getS S' d = .lst ds) S
  | .str z => Q (strItems z, fun _ => True) S
  | _ => False
theorem jok_tup {G : Gr} {a : Addr} {ds : List D} : JOk G (Itt G.K a) ds (fun _ => True) (fun m _ H => ∃ xs, SqT G.K H a xs ∧ RepAll G m H xs ds) where
  mono := fun m S H m' S' H' sr sr' e ⟨xs, h, r⟩ => ⟨xs, by
    rcases h with h | h
    · exact .inl (e.rd h (sr.notTup h) (fun ps z => by cases z)).1
    · exact .inr h, r.mono0 sr e⟩
  go := fun i d m S H sr ⟨xs, h, r⟩ _ hd => by
    obtain ⟨v, hv, rv⟩ := r.get hd
    refine ⟨⟨xs, v, h, hv⟩, fun w H' ⟨e, k⟩ => ?_⟩
    subst e
    have z := k xs h
    rw [hv] at z; cases z
    exact ⟨Ext.refl _ _, sr, rv⟩
  stop := fun i m S H sr ⟨xs, h, r⟩ _ hi => ⟨xs, h, by rw [r.length]; exact hi⟩
theorem jok_lst {G : Gr} {a : Addr} {d : D} {ds : List D} : JOk G (Itl G.K a) ds (fun S' => getS S' d = .lst ds) (fun m S H => Rep G m H (.ref a) d) where
  mono := fun m S H m' S' H' sr sr' e r => r.mono0 sr e
  go := fun i x m S H sr r c hd => by
    obtain ⟨b, xs, e, h, ra⟩ := r.getL sr c
    cases e
    obtain ⟨v, hv, rv⟩ := ra.get hd
    refine ⟨⟨xs, v, h.sq, hv⟩, fun w H' ⟨e, k⟩ => ?_⟩
    subst e
    have z := k xs h.sq
    rw [hv] at z; cases z
    exact ⟨Ext.refl _ _, sr, rv⟩
  stop := fun i m S H sr r c hi => by
    obtain ⟨b, xs, e, h, ra⟩ := r.getL sr c
    cases e
    exact ⟨xs, h.sq, by rw [ra.length]; exact hi⟩
theorem jok_str {G : Gr} {z : Str} : JOk G (Its z) (strItems z) (fun _ => True) (fun _ _ _ => True) where
  mono := fun _ _ _ _ _ _ _ _ _ _ => trivial
  go := fun i x m S H sr _ _ hd => by
    unfold strItems at hd
    rw [List.getElem?_map] at hd
    obtain ⟨c, h1, rfl⟩ := Option.map_eq_some_iff.mp hd
    have h1 : z.cps[i]? = some c := by simpa using h1
    refine ⟨(Array.getElem?_eq_some_iff.mp h1).1, fun w H' ⟨e, c', k1, k2⟩ => ?_⟩
    subst e
    rw [h1] at k1; cases k1
    subst k2
    exact ⟨Ext.refl _ _, sr, .str _⟩
  stop := fun i m S H sr _ _ hi => by
    have : (strItems z).length = z.cps.size := by simp [strItems]
    show z.cps.size ≤ i
    omega
theorem i_val {G : Gr} {X : Cx} {W : WX} {tg e : Expr} {f : F} (hK : X.K = G.K) (he : PE X e (tE G W f)) : PI X tg e (tI G W (bindF f itsF)) :=
  PI.imp (pi_any he) fun σ H R ⟨τ, m, S, h⟩ => ⟨τ, m, S, h.seq fun m1 S1 H1 v d e1 sr1 r1 h1 => by
    obtain ⟨QD, QE, sr, er, hf, k, px⟩ := h1
    rw [hK]
    unfold itsF at hf
    split at hf
    · rename_i ds q
      cases getS_tup q
      obtain ⟨a, xs, rfl, t1, ra⟩ := r1.getT rfl
      exact .inr (.inl ⟨a, rfl, ⟨xs, t1⟩, k m1 S1 H1 _ _ (Ext.refl _ _) sr ⟨_, jok_tup, fun S _ => ⟨xs, t1, ra⟩⟩ hf⟩)
    · rename_i ds q
      obtain ⟨a, xs, rfl, t1, ra⟩ := r1.getL sr q
      exact .inl ⟨a, rfl, ⟨xs, t1.sq⟩, k m1 S1 H1 _ _ (Ext.refl _ _) sr ⟨_, jok_lst, fun S _ => r1⟩ hf⟩
    · rename_i z q
      cases getS_str q
      cases r1
      exact .inr (.inr ⟨z, rfl, k m1 S1 H1 _ _ (Ext.refl _ _) sr ⟨_, jok_str, fun S _ => trivial⟩ hf⟩)
    · exact hf.elim⟩
/-! ### range -/
def rngItems (lo c : Int) (n : Nat) : List D := (List.range n).map fun i => .int (lo + (i : Nat) * c)
theorem rngItems_get {lo c : Int} {n i : Nat} {d : D} (h : (rngItems lo c n)[i]? = some d) : i < n ∧ d = .int (lo + (i : Nat) * c) := by
  unfold rngItems at h
  rw [List.getElem?_map] at h
  obtain ⟨j, h1, rfl⟩ := Option.map_eq_some_iff.mp h
  have := List.getElem?_eq_some_iff.mp h1
  obtain ⟨h2, h3⟩ := this
  rw [List.length_range] at h2
  rw [List.getElem_range] at h3
  subst h3
  exact ⟨h2, rfl⟩
theorem jok_rng {G : Gr} {lo : Int} {n : Nat} : JOk G (Itr lo n) (rngItems lo 1 n) (fun _ => True) (fun _ _ _ => True) where
  mono := fun _ _ _ _ _ _ _ _ _ _ => trivial
  go := fun i x m S H sr _ _ hd => by
    obtain ⟨h1, rfl⟩ := rngItems_get hd
    refine ⟨h1, fun w H' ⟨e, k⟩ => ?_⟩
    subst e k
    exact ⟨Ext.refl _ _, sr, by rw [Int.mul_one]; exact .int _⟩
  stop := fun i m S H sr _ _ hi => by
    have : (rngItems lo 1 n).length = n := by simp [rngItems]
    show n ≤ i
    omega
theorem jok_rngC {G : Gr} {lo c : Int} {n : Nat} : JOk G (Itc lo c n) (rngItems lo c n) (fun _ => True) (fun _ _ _ => True) where
  mono := fun _ _ _ _ _ _ _ _ _ _ => trivial
  go := fun i x m S H sr _ _ hd => by
    obtain ⟨h1, rfl⟩ := rngItems_get hd
    refine ⟨h1, fun w H' ⟨e, k⟩ => ?_⟩
    subst e k
    exact ⟨Ext.refl _ _, sr, .int _⟩
  stop := fun i m S H sr _ _ hi => by
    have : (rngItems lo c n).length = n := by simp [rngItems]
    show n ≤ i
    omega
def smallB (i : Int) : Bool := decide (-(2 ^ 62) ≤ i) && decide (i < 2 ^ 62)
def rng1 (ds : List D) : FG Its' := fun _ S Q _ => match ds with
  | [.int j] => smallB j = true ∧ Q (rngItems 0 1 j.toNat, fun _ => True) S
  | _ => False
def rng2 (ds : List D) : FG Its' := fun _ S Q _ => match ds with
  | [.int i, .int j] => (smallB i = true ∧ smallB j = true) ∧ Q (rngItems i 1 (j - i).toNat, fun _ => True) S
  | _ => False
/-- range(i, j, -1) -/
def rng3 (ds : List D) : FG Its' := fun _ S Q _ => match ds with
  | [.int i, .int j, .int c] => (smallB i = true ∧ smallB j = true ∧ c = -1) ∧ Q (rngItems i (-1) (i - j).toNat, fun _ => True) S
  | _ => False
section
variable {G : Gr} {X : Cx} {W : WX} {tg a b c : Expr} {fa : FG (List D)} {p pos : Pos}
theorem i_rng1 (hg : Gl X "range") (hm : X.mg "range" = none) (ha : PA X [a] (tA G W fa)) (hs : starEach [a] X.env = [(false, eval a X.env)]) : PI X tg (.Call (.Name "range" p) [a] [] pos) (tI G W (bindF fa rng1)) :=
  PI.imp (pi_range1 hg hm ha hs) fun σ H R ⟨τ, m, S, h⟩ => ⟨τ, m, S, h.seq fun m1 S1 H1 vs ds e1 sr1 r1 h1 => by
    obtain ⟨QD, QE, sr, er, hf, k, px⟩ := h1
    unfold rng1 at hf
    split at hf
    · obtain ⟨hb, hf⟩ := hf
      simp only [smallB, Bool.and_eq_true, decide_eq_true_eq] at hb
      cases r1 with
      | cons r rr => cases rr; cases r; exact ⟨_, rfl, hb.1, hb.2, k m1 S1 H1 _ _ (Ext.refl _ _) sr ⟨_, jok_rng, fun S _ => trivial⟩ hf⟩
    · exact hf.elim⟩
theorem i_rng2 (hg : Gl X "range") (hm : X.mg "range" = none) (ha : PA X [a, b] (tA G W fa)) (hs : starEach [a, b] X.env = [(false, eval a X.env), (false, eval b X.env)]) (hs2 : starEach [b] X.env = [(false, eval b X.env)]) : PI X tg (.Call (.Name "range" p) [a, b] [] pos) (tI G W (bindF fa rng2)) :=
  PI.imp (pi_range2 hg hm ha hs hs2) fun σ H R ⟨τ, m, S, h⟩ => ⟨τ, m, S, h.seq fun m1 S1 H1 vs ds e1 sr1 r1 h1 => by
    obtain ⟨QD, QE, sr, er, hf, k, px⟩ := h1
    unfold rng2 at hf
    split at hf
    · obtain ⟨⟨hb, hb2⟩, hf⟩ := hf
      simp only [smallB, Bool.and_eq_true, decide_eq_true_eq] at hb hb2
      cases r1 with
      | cons r rr =>
        cases rr with
        | cons r' rr => cases rr; cases r; cases r'; exact ⟨_, _, rfl, ⟨hb.1, hb.2, hb2.1, hb2.2⟩, k m1 S1 H1 _ _ (Ext.refl _ _) sr ⟨_, jok_rng, fun S _ => trivial⟩ hf⟩
    · exact hf.elim⟩
theorem i_rng3 (hg : Gl X "range") (hm : X.mg "range" = none) (ha : PA X [a, b, c] (tA G W fa)) (hs : starEach [a, b, c] X.env = (false, eval a X.env) :: starEach [b, c] X.env) (hpl : (backTo pos (starEach [b, c] X.env)).any (·.1) = false) : PI X tg (.Call (.Name "range" p) [a, b, c] [] pos) (tI G W (bindF fa rng3)) :=
  PI.imp (pi_range3 hg hm ha hs hpl) fun σ H R ⟨τ, m, S, h⟩ => ⟨τ, m, S, h.seq fun m1 S1 H1 vs ds e1 sr1 r1 h1 => by
    obtain ⟨QD, QE, sr, er, hf, k, px⟩ := h1
    unfold rng3 at hf
    split at hf
    · obtain ⟨⟨hb, hb2, rfl⟩, hf⟩ := hf
      simp only [smallB, Bool.and_eq_true, decide_eq_true_eq] at hb hb2
      cases r1 with
      | cons r rr =>
        cases rr with
        | cons r' rr =>
          cases rr with
          | cons r'' rr => cases rr; cases r; cases r'; cases r''; exact ⟨_, _, _, _, rfl, RgC.neg hb.1 hb.2 hb2.1 hb2.2, k m1 S1 H1 _ _ (Ext.refl _ _) sr ⟨_, jok_rngC, fun S _ => trivial⟩ hf⟩
    · exact hf.elim⟩
end

/-! ### for -/
def forL (t : Tg) (body : FS) (chk : Store → Prop) : List D → FS
  | [] => fun E τ S => chk S ∧ E.nx τ S
  | d :: ds => fun E τ S => chk S ∧ match bindT t d τ with
    | some τ' => body { E with nx := fun τ'' S'' => forL t body chk ds E τ'' S'', ct := fun τ'' S'' => forL t body chk ds E τ'' S'', bk := E.nx } τ' S
    | none => False
def forS (fi : FG Its') (t : Tg) (body : FS) : FS := fun E τ S => fi τ S (fun p S' => forL t body p.2 p.1 E τ S') (fun x S' => E.ex x τ S')
section
variable {G : Gr} {X : Cx} {W : WX} {tg iter : Expr} {body : List Stmt} {fi : FG Its'} {t : Tg} {f : FS} {pos : Pos}
theorem s_for (hp : PassesOwn (model X.prog X.w) X.A X.env X.xe) (hc : X.calm = true) (hi : PI X tg iter (tI G W fi)) (hg : GOk G X tg t) (hb : PSs X body (tS G W f)) (hs : ∀ x, foldedSetIterable iter X.env x = pure x) : PS X (.For tg iter body [] pos) (tS G W (forS fi t f)) := by
  obtain ⟨g, pg, kg⟩ := hg
  refine PS.imp (ps_for hp hc hi pg hb hs) fun D σ H ⟨τ, m, S, h⟩ => ⟨τ, m, S, AtS.expr (ρ := rI G) (g := fun p E τ S => forL t f p.2 p.1 E τ S) h fun m1 S1 H1 J pq e1 sr1 r1 ⟨E, sr, er, hf, p⟩ => ?_⟩
  obtain ⟨ds, chk⟩ := pq
  obtain ⟨Src, J1, s1⟩ := r1
  refine ⟨fun i μ σ' H' => μ = ds.length - i ∧ ∃ τ' m' S', i ≤ ds.length ∧ Ext m1 H1 m' H' ∧ SR G m' S' H' ∧ EnvR G m' H' σ' τ' ∧ Src m' S' H' ∧ forL t f chk (ds.drop i) E τ' S', ⟨_, rfl, τ, m1, S1, Nat.zero_le _, Ext.refl _ _, sr, er, s1 S1 sr, by simpa using hf⟩, ?_⟩
  rintro i μ σ2 H2 ⟨rfl, τ2, m2, S2, hi2, e2, sr2, er2, src2, h2⟩
  by_cases hl : i < ds.length
  · obtain ⟨d, hd⟩ : ∃ d, ds[i]? = some d := ⟨ds[i], List.getElem?_eq_getElem hl⟩
    have ed : ds.drop i = d :: ds.drop (i + 1) := by
      rw [List.drop_eq_getElem_cons hl]
      congr 1
      rw [List.getElem?_eq_getElem hl] at hd
      exact Option.some.inj hd
    rw [ed] at h2
    obtain ⟨hc2, h2⟩ := h2
    obtain ⟨jg, jy⟩ := J1.go i d m2 S2 H2 sr2 src2 hc2 hd
    refine .inr ⟨jg, fun σ' H' => ∃ τ' m' S', Ext m1 H1 m' H' ∧ SR G m' S' H' ∧ EnvR G m' H' σ' τ' ∧ Src m' S' H' ∧ forL t f chk (ds.drop (i + 1)) E τ' S', fun σ' H' ⟨τ', m', S', a, b, c, d, e⟩ => ⟨ds.length - (i + 1), by omega, rfl, τ', m', S', by omega, a, b, c, d, e⟩, fun v H3 y3 => ?_⟩
    obtain ⟨e3, sr3, r3⟩ := jy v H3 y3
    cases q : bindT t d τ2 with
    | none => rw [q] at h2; exact h2.elim
    | some τ3 =>
      rw [q] at h2
      refine kg m2 S2 H3 σ2 τ2 τ3 v d _ sr3 (er2.mono sr2 e3) r3 q fun σ3 er3 _ => ⟨τ3, m2, S2, _, sr3, er3, h2, ?_⟩
      have e23 := e2.trans e3
      have p3 := p.mono e23
      have src3 := J1.mono m2 S2 H2 m2 S2 H3 sr2 sr3 e3.to0 src2
      exact ⟨fun m4 S4 H4 s t e4 sr4 er4 q4 => ⟨t, m4, S4, e23.trans e4, sr4, er4, J1.mono m2 S2 H3 m4 S4 H4 sr3 sr4 e4.to0 src3, q4⟩, p3.rt, p3.nx, fun m4 S4 H4 s t e4 sr4 er4 q4 => ⟨t, m4, S4, e23.trans e4, sr4, er4, J1.mono m2 S2 H3 m4 S4 H4 sr3 sr4 e4.to0 src3, q4⟩, p3.ex⟩
  · have e : i = ds.length := by omega
    rw [e, List.drop_length] at h2
    obtain ⟨hc2, h2⟩ := h2
    exact .inl ⟨J1.stop i m2 S2 H2 sr2 src2 hc2 (by show ds.length ≤ i; omega), (p.mono e2).nx m2 S2 H2 σ2 τ2 (Ext.refl _ _) sr2 er2 h2⟩
end

/-! ### comprehensions -/
def noX : QX := fun _ _ => False
def W0 : WX := fun _ _ _ _ => False
def wipeE (τ : Env) : List Nat → Env
  | [] => τ
  | v :: vs => (wipeE τ vs).set v none
theorem EnvR.wipe {G : Gr} {m : Mp} {H : Hp} {σ : L2.St} {τ : Env} (r : EnvR G m H σ τ) : ∀ vs, EnvR G m H (L2.wipe σ vs) (wipeE τ vs)
  | [] => r
  | v :: vs => (EnvR.wipe r vs).unset v
theorem wipe_congr {σ σ' : L2.St} : ∀ {vs l : List Nat}, SameBut l (L2.wipe σ vs) σ' → (∀ i ∈ l, i ∈ vs) → L2.wipe σ' vs = L2.wipe σ vs := by
  intro vs l h hl
  have key : ∀ (ws : List Nat) (σ : L2.St) (i : Nat), (L2.wipe σ ws)[i]? = if i < σ.length then (if i ∈ ws then some none else σ[i]?) else none := by
    intro ws
    induction ws with
    | nil => intro σ i; by_cases hi : i < σ.length <;> simp [L2.wipe, hi]
    | cons w ws ih =>
      intro σ i
      unfold L2.wipe
      by_cases e : w = i
      · subst e
        by_cases hi : w < σ.length
        · rw [List.getElem?_set_self (by rw [L2.wipe_length]; exact hi)]
          simp [hi]
        · rw [List.getElem?_eq_none (by simp [L2.wipe_length]; omega)]
          simp [hi]
      · rw [List.getElem?_set_ne e, ih]
        have : i ≠ w := fun z => e z.symm
        simp [this]
  apply List.ext_getElem?
  intro i
  rw [key, key]
  have e1 : σ'.length = σ.length := by rw [h.1, L2.wipe_length]
  rw [e1]
  by_cases hi : i < σ.length
  · simp only [hi, if_true]
    by_cases hv : i ∈ vs
    · simp [hv]
    · simp only [hv, if_false]
      rw [h.2 i (fun z => hv (hl i z)), key]
      simp [hi, hv]
  · simp [hi]
def compL (t : Tg) (ft : FG Bool) (fe : F) (chk : Store → Prop) (τ : Env) : List D → List D → Store → (List D → Store → Prop) → Prop
  | [], acc, S, Q => chk S ∧ Q acc S
  | d :: ds, acc, S, Q => chk S ∧ match bindT t d τ with
    | some τ' => ft τ' S (fun b S1 => if b = true then fe τ' S1 (fun x S2 => acc.length < sizeLine ∧ compL t ft fe chk τ ds (acc ++ [x]) S2 Q) noX else compL t ft fe chk τ ds acc S1 Q) noX
    | none => False
def compF (mu : Bool) (fi : FG Its') (t : Tg) (ft : FG Bool) (fe : F) (vs : List Nat) : F := fun τ S Q E => fi τ S (fun p S1 => compL t ft fe p.2 (wipeE τ vs) p.1 [] S1 (fun acc S2 => newL mu acc τ S2 Q E)) E
section
variable {G : Gr} {W : WX} {fi : FG Its'} {t : Tg} {ft : FG Bool} {fe : F} {vs : List Nat} {mu : Bool} {σ : L2.St} {H : Hp} {Q : VK} {g : TG}
theorem tLc_imp (hvs : ∀ i ∈ slotsT t, i ∈ vs)
    (kg : ∀ (m : Mp) (S : Store) (H : Hp) (σ : L2.St) (τ τ' : Env) (v : V) (d : D) (Q : L2.St → Hp → Prop), SR G m S H → EnvR G m H σ τ → Rep G m H v d → bindT t d τ = some τ' → (∀ σ', EnvR G m H σ' τ' → SameBut (slotsT t) σ σ' → Q σ' H) → g v σ H Q)
    (h : tE G W (compF mu fi t ft fe vs) σ H Q) : tLc (tI G W fi) g (tT G W0 ft) (tE G W0 fe) vs σ H Q := by
  obtain ⟨τ, m, S, QD, QE, sr, er, hf, k, px⟩ := h
  refine ⟨τ, m, S, _, QE, sr, er, hf, fun m1 S1 H1 J pq e1 sr1 ⟨Src, J1, src1⟩ q1 => ?_, px⟩
  obtain ⟨ds, chk⟩ := pq
  intro D hD
  have src1 := src1 S1 sr1
  have h0 := Ext0.hide (m := m1) (o := .lst []) hD
  have srH := sr1.hide hD
  refine ⟨fun i μ H' => μ = ds.length - i ∧ ∃ m' S' acc accD, i ≤ ds.length ∧ m'.hid = D :: m1.hid ∧ Ext m1 H1 (m'.hidAs m1.hid) H' ∧ SR G m' S' H' ∧ EnvR G m' H' (L2.wipe σ vs) (wipeE τ vs) ∧ Src m' S' H' ∧ H' D = some (.lst acc) ∧ RepAll G m' H' acc accD ∧
      compL t ft fe chk (wipeE τ vs) (ds.drop i) accD S' (fun acc S2 => newL mu acc τ S2 QD QE),
    ⟨ds.length, by simp, m1.hide D, S1, [], [], Nat.zero_le _, rfl, ?_, srH, ((er.mono sr e1).mono0 sr1 h0).wipe vs, J1.mono _ _ _ _ _ _ sr1 srH h0 src1, upd_same, .nil, by simpa using q1⟩, ?_⟩
  · have : (m1.hide D).hidAs m1.hid = m1 := rfl
    rw [this]
    exact Ext.upd sr1 hD
  rintro i μ H2 ⟨rfl, m2, S2, acc, accD, hi2, hh2, ec2, sr2, er2, src2, hD2, ra2, c2⟩
  by_cases hl : i < ds.length
  · obtain ⟨d, hd⟩ : ∃ d, ds[i]? = some d := ⟨ds[i], List.getElem?_eq_getElem hl⟩
    have ed : ds.drop i = d :: ds.drop (i + 1) := by
      rw [List.drop_eq_getElem_cons hl]
      congr 1
      rw [List.getElem?_eq_getElem hl] at hd
      exact Option.some.inj hd
    rw [ed] at c2
    obtain ⟨hc2, c2⟩ := c2
    obtain ⟨jg, jy⟩ := J1.go i d m2 S2 H2 sr2 src2 hc2 hd
    refine .inr ⟨jg, fun H' => ∃ m' S' acc accD, m'.hid = D :: m1.hid ∧ Ext m1 H1 (m'.hidAs m1.hid) H' ∧ SR G m' S' H' ∧ EnvR G m' H' (L2.wipe σ vs) (wipeE τ vs) ∧ Src m' S' H' ∧ H' D = some (.lst acc) ∧ RepAll G m' H' acc accD ∧
      compL t ft fe chk (wipeE τ vs) (ds.drop (i + 1)) accD S' (fun acc S2 => newL mu acc τ S2 QD QE), fun H' ⟨m', S', acc, accD, a1, a2, a3, a4, a5, a6, a7, a8⟩ => ⟨ds.length - (i + 1), by omega, rfl, m', S', acc, accD, hl, a1, a2, a3, a4, a5, a6, a7, a8⟩, fun v H3 y3 => ?_⟩
    obtain ⟨e3, sr3, r3⟩ := jy v H3 y3
    have er3 := er2.mono sr2 e3
    have inh2 : D ∈ m2.hid := by rw [hh2]; exact List.mem_cons_self
    -- what stands in the hidden list through a step
    cases q : bindT t d (wipeE τ vs) with
    | none => rw [q] at c2; exact c2.elim
    | some τ3 =>
      rw [q] at c2
      refine kg m2 S2 H3 _ _ τ3 v d _ sr3 er3 r3 q fun σ3 er3' sb => ⟨wipe_congr sb hvs, τ3, m2, S2, _, noX, sr3, er3', c2, fun m4 S4 H4 b b' e4 sr4 rb q4 => ?_, fun _ _ _ _ _ _ _ _ _ z => z.elim⟩
      cases (show b = b' from rb)
      have e24 := e3.trans e4
      have hh4 : m4.hid = D :: m1.hid := e24.hid.trans hh2
      have ec4 := ec2.outer hD hh2 e24
      have src4 := J1.mono _ _ _ _ _ _ sr2 sr4 e24.to0 src2
      have hD4 : H4 D = some (.lst acc) := (e24.hidk D inh2).trans hD2
      cases b with
      | false =>
        rw [if_neg Bool.false_ne_true] at q4 ⊢
        exact ⟨m4, S4, acc, accD, hh4, ec4, sr4, er2.mono sr2 e24, src4, hD4, ra2.mono sr2 e24, q4⟩
      | true =>
        rw [if_pos rfl] at q4 ⊢
        refine ⟨τ3, m4, S4, _, noX, sr4, er3'.mono sr3 e4, q4, fun m5 S5 H5 y x e5 sr5 r5 q5 => ?_, fun _ _ _ _ _ _ _ _ _ z => z.elim⟩
        obtain ⟨hz, q5⟩ := q5
        have e25 := e24.trans e5
        have hh5 : m5.hid = D :: m1.hid := e25.hid.trans hh2
        have in5 : D ∈ m5.hid := by rw [hh5]; exact List.mem_cons_self
        have hD5 : H5 D = some (.lst acc) := (e25.hidk D inh2).trans hD2
        have ra5 := ra2.mono sr2 e25
        have f5 := Ext0.fill (H := H5) (o := .lst (acc ++ [y])) in5
        have sr6 := sr5.fill (xs := acc ++ [y]) in5
        exact ⟨acc, hD5, by rw [ra5.length]; exact hz, m5, S5, acc ++ [y], accD ++ [x], hh5, Ext.outerFill sr1 (ec2.outer hD hh2 e25) hD, sr6, (er2.mono sr2 e25).mono0 sr5 f5, J1.mono _ _ _ _ _ _ sr5 sr6 f5 (J1.mono _ _ _ _ _ _ sr2 sr5 e25.to0 src2), upd_same, (ra5.append (.cons r5 .nil)).mono0 sr5 f5, q5⟩
  · have e : i = ds.length := by omega
    rw [e, List.drop_length] at c2
    obtain ⟨hc2, c2⟩ := c2
    refine .inl ⟨J1.stop i m2 S2 H2 sr2 src2 hc2 (by show ds.length ≤ i; omega), ?_⟩
    have nD : D ∉ m1.hid := fun z => by
      obtain ⟨⟨xs, h⟩, _⟩ := sr1.hidt D z
      rw [hD] at h; cases h
    unfold Dx.newL at c2
    cases mu with
    | false =>
      rw [if_neg Bool.false_ne_true] at c2
      exact k (m2.hidAs m1.hid) S2 H2 _ _ (e1.trans ec2) (sr2.unhide hh2) (rep_unhide sr2 hh2 nD hD2 ra2) c2
    | true =>
      rw [if_pos rfl] at c2
      refine k ((m2.hidAs m1.hid).snoc D) (S2 ++ [.lst accD]) H2 _ _ (e1.trans (Ext.toStore (l := m1.hid) ec2 hD)) (sr2.toStore hh2 nD hD2 ra2) ?_ c2
      rw [sr2.len]
      exact rep_obj (m := m2.hidAs m1.hid)
variable {X : Cx} {elt tg iter : Expr} {ifs : List Expr} {scope : Scope} {own : List (Str × Nat)} {pos pos' spos : Pos}
/-- the parts of a comprehension's block -/
structure BlkE (G : Gr) (X : Cx) (tg elt : Expr) (ifs : List Expr) (scope : Scope) (t : Tg) (ft : FG Bool) (fe : F) : Prop where
  ex : ∃ g : TG, (∀ (s : Shared) (H : Hp) (C : Addr) (cl : List (Str × Addr)) (fp : List Addr), PG (X.blk s H scope (compEnvC scope cl C X.env) fp) tg g) ∧
    ∀ (m : Mp) (S : Store) (H : Hp) (σ : L2.St) (τ τ' : Env) (v : V) (d : D) (Q : L2.St → Hp → Prop), SR G m S H → EnvR G m H σ τ → Rep G m H v d → bindT t d τ = some τ' → (∀ σ', EnvR G m H σ' τ' → SameBut (slotsT t) σ σ' → Q σ' H) → g v σ H Q
  ts : ∀ (s : Shared) (H : Hp) (C : Addr) (cl : List (Str × Addr)) (fp : List Addr), PTs (X.blk s H scope (compEnvC scope cl C X.env) fp) ifs (tT G W0 ft)
  el : ∀ (s : Shared) (H : Hp) (C : Addr) (cl : List (Str × Addr)) (fp : List Addr), PE (X.blk s H scope (compEnvC scope cl C X.env) fp) elt (tE G W0 fe)
theorem e_lc (hc : X.calm = true) (hN : X.N.Nodup) (hi : PI X tg iter (tI G W fi)) (ok : BlkOk X.N X.env.scope scope own) (B : BlkE G X tg elt ifs scope t ft fe) (hs : ∀ x, foldedSetIterable iter X.env x = pure x) (hvs : ∀ i ∈ slotsT t, i ∈ own.map (·.2)) :
    PE X (.ListComp elt [⟨tg, iter, ifs, 0⟩] scope pos) (tE G W (compF mu fi t ft fe (own.map (·.2)))) := by
  obtain ⟨g, h1, h2⟩ := B.ex
  exact PE.imp (pe_lc hc hN hi ok h1 B.ts B.el hs) fun σ H Q h => tLc_imp hvs h2 h
theorem s_setLc {i : Nat} {y : Str} {py : Pos} (hc : X.calm = true) (hN : X.N.Nodup) (hy : X.N[i]? = some y) (hyl : X.env.scope.names.lookup y = some .local)
    (hsw : swapsWith (.ListComp elt [⟨tg, iter, ifs, 0⟩] scope pos) (some (.Name y py)) spos.line X.env = pure true) (hi : PI X tg iter (tI G W fi)) (ok : BlkOk X.N X.env.scope scope own) (B : BlkE G X tg elt ifs scope t ft fe) (hs : ∀ x, foldedSetIterable iter X.env x = pure x) (hvs : ∀ i ∈ slotsT t, i ∈ own.map (·.2)) :
    PS X (.Assign [.Name y py] (.ListComp elt [⟨tg, iter, ifs, 0⟩] scope pos) spos) (tS G W (setS i (compF mu fi t ft fe (own.map (·.2))))) := by
  obtain ⟨g, h1, h2⟩ := B.ex
  refine PS.imp (ps_setLc hc hN hy hyl hsw hi ok h1 B.ts B.el hs) fun D σ H ⟨τ, m, S, h⟩ => ?_
  exact tLc_imp (Q := fun x H1 => gName i x σ H1 D.nx) hvs h2 ⟨τ, m, S, AtS.expr (ρ := rV G) (g := fun d E τ S => E.nx (τ.set i (some d)) S) h fun m1 S1 H1 v d e1 sr1 r1 ⟨E, sr, er, hf, p⟩ => p.nx m1 S1 H1 _ _ (Ext.refl _ _) sr (er.set r1 i) hf⟩
theorem ts_nil {X : Cx} : PTs X [] (tT G W0 (retF true)) := ⟨fun pins s σ H Q I ⟨τ, m, S, h⟩ => pts_nil.run pins s σ H Q I (h.ret m H true (Ext.refl _ _) h.sr rfl)⟩
theorem ts_one {X : Cx} {c : Expr} {ft : FG Bool} (h : PT X c (tT G W0 ft)) : PTs X [c] (tT G W0 ft) := pts_one h
end
end Dx

set_option Elab.async false
set_option linter.all false
set_option maxRecDepth 100000
set_option maxHeartbeats 4000000
/-! DX, part 9: calls by contracts; a def by its body; raise; f(lambda: e). -/
namespace Dx
open PySem PySem.Spec PyProof.Rows L2

/-- a contract: what a caller must show -/
abbrev Ct := List D → Store → (D → Store → Prop) → QX → Prop
def callC (c : Ct) (ds : List D) : F := fun _ S Q E => c ds S Q E
def spD (G : Gr) (n : Nat) (c : Ct) : Sp := fun vs H Q E => ∃ m S ds QD QE, SR G m S H ∧ RepAll G m H vs ds ∧ ds.length = n ∧ c ds S QD QE ∧ PostG G (rV G) m H QD Q ∧
  ∀ (m' : Mp) (S' : Store) (H' : Hp) (cls : Value) (dd : Option Addr) (x : Ex), Ext m H m' H' → SR G m' S' H' → RepX G m' H' cls dd x → QE x S' → E cls dd H'
/-- a contract that asks for so many arguments -/
def Ct.sized (c : Ct) (n : Nat) : Prop := ∀ ds S Q E, c ds S Q E → ds.length = n

section
variable {G : Gr} {X : Cx} {W : WX} {k n : Nat} {f : Addr} {fd : FuncData} {ps : List Str} {c : Ct} {x : Str} {p pos : Pos} {e : Expr} {es : List Expr} {fa : FG (List D)}
theorem e_call (F : FnOk X.prog X.w X.K X.mg X.base (L2.CX X.prog X.w) k f fd ps (spD G n c)) (hc : Ct.sized c n) (hr : Room k X.A) (hg : Gl X x) (hm : X.mg x = some (.ref f)) (hk : PySem.W.keepIn X.K (.ref f) = true) (hb : Binds X.K fd ps []) (tk : Takes X W)
    (ha : PA X (e :: es) (tA G W fa)) (hdb : (x == ("__debug__" : Str)) = false) (he : starEach (e :: es) X.env = (false, eval e X.env) :: starEach es X.env) (hpl : (backTo pos (starEach es X.env)).any (·.1) = false) :
    PE X (.Call (.Name x p) (e :: es) [] pos) (tE G W (bindF fa (callC c))) :=
  PE.imp (pe_callS F hr hg hm hk hb (fun σ => passAt tk σ) ha hdb he hpl) fun σ H Q ⟨τ, m, S, h⟩ => ⟨τ, m, S, h.seq fun m1 S1 H1 vs ds e1 sr1 r1 ⟨QD, QE, sr, er, hf, k, px⟩ => ⟨m1, S1, ds, QD, QE, sr, r1, hc ds S1 QD QE hf, hf, k, fun m' S' H' cls dd x e sr' rx q => px m' S' H' cls dd x e sr' rx q⟩⟩
theorem e_call0 (F : FnOk X.prog X.w X.K X.mg X.base (L2.CX X.prog X.w) k f fd ps (spD G n c)) (hc : Ct.sized c n) (hr : Room k X.A) (hg : Gl X x) (hm : X.mg x = some (.ref f)) (hk : PySem.W.keepIn X.K (.ref f) = true) (hb : Binds X.K fd ps []) (tk : Takes X W)
    (hdb : (x == ("__debug__" : Str)) = false) : PE X (.Call (.Name x p) [] [] pos) (tE G W (callC c [])) := by
  refine ⟨fun pins s σ H Q I ⟨τ, m, S, QD, QE, sr, er, hf, kk, px⟩ => ?_⟩
  refine wpAny_Call_Name_kw (ld_glob I hg hm ?_ hdb)
  exact PySem.W.callWith_K0 I.kIn hk (run_fnS (us := []) (vs := []) (E := WE W) F hr hb (passAt tk σ) I .nil ⟨m, S, [], QD, QE, sr, .nil, hc [] S QD QE hf, hf, kk, fun m' S' H' cls dd x e sr' rx q => px m' S' H' cls dd x e sr' rx q⟩)
end

/-! ### a def's body -/
def startE (N : List Str) (ds : List D) : Env := ds.map some ++ List.replicate (N.length - ds.length) none
theorem start_env {G : Gr} {m : Mp} {H : Hp} {N : List Str} {vs : List V} {ds : List D} (r : RepAll G m H vs ds) : EnvR G m H (L2.start N vs) (startE N ds) := by
  refine ⟨by simp [L2.start, startE, r.length], fun i d h => ?_⟩
  unfold startE at h
  by_cases hi : i < ds.length
  · rw [List.getElem?_append_left (by simpa using hi), List.getElem?_map] at h
    obtain ⟨d', h1, h2⟩ := Option.map_eq_some_iff.mp h
    cases h2
    obtain ⟨v, hv, rv⟩ := r.get h1
    refine ⟨v, ?_, rv⟩
    unfold L2.start
    rw [List.getElem?_append_left (by simp [r.length]; exact hi), List.getElem?_map, hv]
    rfl
  · rw [List.getElem?_append_right (by simpa using hi), List.getElem?_replicate] at h
    split at h <;> cases h
/-- what a body owes its contract -/
def bodyEnds (QD : D → Store → Prop) (QE : QX) : DEnds := { nx := fun _ S => QD .non S, rt := QD, ex := fun x _ S => QE x S }
section
variable {G : Gr} {P : Program} {w : World} {mg : Str → Option Value} {base : Heap} {k n : Nat} {f : Addr} {name qual : Str} {params : Arguments} {body : List Stmt} {scope : Scope} {dV kV doc pm cdv ct oc : Value} {an od : Option Addr}
    {osl : Array (Option Value)} {N ps : List Str} {c : Ct} {fs : FS}
theorem fn_ok (lk : G.K.lookup f = some ⟨oc, od, .func (PySem.W.fnOf name qual params body scope dV kV doc pm an cdv ct), osl⟩) (hcd : PySem.W.codeIn G.K cdv qual = true) (S : FnScope N ps scope) (hn : ps.length = n)
    (hbody : ∀ (A : Around) (outer : List PySem.Env) (s : Shared) (H : Hp) (E : XK), Room k (A.deeper (envOfC qual scope s.heap.objs.size f cdv)) →
      PSs (cxOf (L2.CX P w) P w G.K mg base N qual scope f cdv A outer s H E) body (tS G (fun cls d _ H => E cls d H) fs))
    (hfs : ∀ ds S Q E, ds.length = n → c ds S Q E → fs (bodyEnds Q E) (startE N ds) S) :
    FnOk P w G.K mg base (L2.CX P w) (k + 1) f (PySem.W.fnOf name qual params body scope dV kV doc pm an cdv ct) ps (spD G n c) := by
  refine fn_of lk hcd S (fun vs H Q E ⟨m, S, ds, QD, QE, sr, r, hl, _⟩ => by rw [r.length, hl, hn]) fun A outer s H vs Q E hr ⟨m, S, ds, QD, QE, sr, r, hl, hc, kk, px⟩ => ?_
  refine ⟨_, hbody A outer s H E hr, startE N ds, m, S, bodyEnds QD QE, sr, start_env r, hfs ds S QD QE hl hc, ?_⟩
  exact ⟨fun m' S' H' σ' τ' e sr' er q => kk m' S' H' .non .non e sr' .non q, kk, fun _ _ _ _ _ _ _ _ z => z.elim, fun _ _ _ _ _ _ _ _ z => z.elim, fun m' S' H' σ' τ' cls dd x e sr' er rx q => px m' S' H' cls dd x e sr' rx q⟩
end

/-! ### raise X('..') -/
def raiseS (x : Str) : FS := fun E τ S => E.ex ⟨x, []⟩ τ S
section
variable {G : Gr} {X : Cx} {W : WX} {C : Addr} {bmB : List Value} {B newId initId : String} {x m : Str} {j : Nat} {p p2 pos pos2 : Pos}
theorem s_raise (hmg : X.mg = G.mg) (hc : X.calm = true) (tk : Takes X W) (F : ExcBaseFacts B newId initId bmB) (q : PySem.W.excIn X.K C bmB newId = true) (gC : X.mg x = some (.ref C)) (kC : PySem.W.keepIn X.K (.ref C) = true) (r : Raises X (.ref C)) (hg : Gl X x)
    (hdb : (x == ("__debug__" : Str)) = false) : PS X (.Raise (some (.Call (.Name x p) [.Constant (.str m) j p2] [] pos)) none pos2) (tS G W (raiseS x)) :=
  PS.imp (ps_raise hc tk (pmk_own F q gC kC r hg hdb)) fun D σ H ⟨τ, mm, S, E, sr, er, hf, pp⟩ => pp.ex mm S H σ τ _ _ _ (Ext.refl _ _) sr er ⟨⟨C, hmg ▸ gC, rfl⟩, .inl rfl⟩ hf
end
end Dx

set_option Elab.async false
set_option linter.all false
set_option maxRecDepth 100000
set_option maxHeartbeats 4000000
/-! DX, part 10: f(lambda: e), f a def that tells an error's word. -/
namespace Dx
open PySem PySem.Spec PyProof.Rows L2

/-- which handler takes a class: by names -/
structure Hd where
  cls : Str
  ret : Str
def wHd (K : PySem.W.Frag) (Q : VK) : List (Value × Str) → Value → Hp → Prop
  | [], _, _ => False
  | (c, r) :: l, cls, H => ∃ b, PySem.W.exmOne K cls c = some b ∧ (b = true → Q (.str r) H) ∧ (b = false → wHd K Q l cls H)
def TTm (K : PySem.W.Frag) (l : List (Value × Str)) (dflt : Str) : (XK → Hp → VK → Prop) → Hp → VK → Prop := fun tl H Q => tl (fun cls _ H' => wHd K Q l cls H') H (fun _ H' => Q (.str dflt) H')
/-- the handlers' texts -/
inductive HdsM (X : Cx) : List ExceptHandler → List (Value × Str) → Prop
  | nil : HdsM X [] []
  | cons {x ret : Str} {C : Addr} {j : Nat} {np p1 p2 pos' : Pos} {hds : List ExceptHandler} {l : List (Value × Str)} (hge : Gl X x) (hde : (x == ("__debug__" : Str)) = false) (hme : X.mg x = some (.ref C)) (r : HdsM X hds l) :
      HdsM X (.ExceptHandler (some (.Name x np)) none [.Return (some (.Constant (.str ret) j p1)) p2] pos' :: hds) ((.ref C, ret) :: l)
def tsM (l : List (Value × Str)) : List (Value × (Addr → Value → Option Addr → TS)) := l.map fun q => (q.1, fun _ _ _ => tRet (tC (.str q.2)))
theorem HdsM.ok {X : Cx} {hds : List ExceptHandler} {l : List (Value × Str)} (h : HdsM X hds l) : HdsOk X hds (tsM l) := by
  induction h with
  | nil => exact .nil
  | cons hge hde hme r ih => exact .cons ⟨hge, hde, .inl hme⟩ (fun a oe cls d pn _ _ => pss_one (ps_ret pe_str)) ih
theorem wMany_of {K : PySem.W.Frag} {D : Ends} {σ : L2.St} {d : Option Addr} : ∀ {l : List (Value × Str)} {cls : Value} {H : Hp}, wHd K D.rt l cls H → wMany K (fun _ _ _ _ => False) D (tsM l) cls d σ H
  | [], _, _, h => h.elim
  | (c, r) :: l, cls, H, ⟨b, h1, h2, h3⟩ => ⟨b, h1, fun e a _ => h2 e, fun e => wMany_of (h3 e)⟩
theorem gives_many {X : Cx} {Ng : List Str} {x a q dflt : Str} {sg : Scope} {g : Addr} {cdg : Value} {j : Nat} {p1 p2 p3 p4 p5 p6 : Pos} {h0 : ExceptHandler} {hds : List ExceptHandler} {l : List (Value × Str)}
    (hh : ∀ (s : Shared) (H : Hp), HdsM (cxOf C8.CX0 X.prog X.w X.K X.mg X.base Ng x sg g cdg X.A X.stack s H C8.E0).nox (h0 :: hds) l) (h0' : ∀ f : Addr, (L2.start Ng [V.ref f])[0]? = some (some (V.ref f)))
    (hsw : ∀ env : PySem.Env, swapsWith (.Call (.Name a p1) [] [] p2) none p3.line env = pure false) :
    LamX.GivesTo X Ng x sg g cdg [.Try [.Expr (.Call (.Name a p1) [] [] p2) p3] (h0 :: hds) [] [] p4, .Return (some (.Constant (.str dflt) j p5)) p6] a q (TTm X.K l dflt) := by
  intro f c' s H Q tl act hc h
  refine ⟨_, pss_cons (ps_try_many (X := (cxOf C8.CX0 X.prog X.w X.K X.mg X.base Ng x sg g cdg X.A X.stack s H C8.E0).nox) (l := tsM l)
      (tb := fun W D σ H => ∃ Ech : XK, (∀ cls d σ' H', Ech cls d H' → W cls d σ' H') ∧ σ[0]? = some (some (.ref f)) ∧ H c' = some (LamX.CodeO c' q) ∧ tl Ech H (fun _ H' => D.nx σ H'))
      rfl rfl LamX.takes0 (fun W pn xe tk _ => ?_) (hh s H).ok) (pss_one (ps_ret pe_str)), ?_⟩
  · refine ⟨fun pins s' σ H' D I h' => ?_⟩
    obtain ⟨Ech, hW, h1, h2, h3⟩ := h'
    have hp := act W pn xe Ech p1 p2 tk hW
    have hq := pss_one (ps_expr (pos := p3) hp (hsw _))
    exact hq.run pins s' σ H' D I ⟨h1, h2, h3⟩
  · exact ⟨fun cls _ H' => wHd X.K Q l cls H', fun cls d σ' H' z => wMany_of z, h0' f, hc, h⟩

/-- the reading: the body, its error told as a word -/
def lamH (hs : List (Str × Bool × Str)) : Option Str := match hs.find? (·.2.1) with
  | some q => some q.2.2
  | none => none
/-- word x: what the handlers make of the class x -/
def lamF (word : Str → Option Str) (dflt : Str) (f : F) : F := fun τ S Q _ => f τ S (fun _ S' => Q (.str dflt) S') (fun x S' => match word x.cls with
  | some r => Q (.str r) S'
  | none => False)
/-- what the classes say of one another -/
def WordOk (G : Gr) (l : List (Value × Str)) (word : Str → Option Str) : Prop :=
  ∀ (x r : Str) (C : Addr), word x = some r → G.mg x = some (.ref C) → ∀ (Q : VK) (H : Hp), Q (.str r) H → wHd G.K Q l (.ref C) H
theorem Ext.ofN {G : Gr} {m : Mp} {S : Store} {H H1 : Hp} (sr : SR G m S H) (e : LamX.ExtN H H1) : Ext m H m H1 where
  len := Nat.le_refl _
  old := fun _ _ _ h => h
  new := fun n a h z => by rw [List.getElem?_eq_none (by omega)] at z; cases z
  keep := fun b o h _ t => e b o h t
  there := fun b h o q => by
    by_cases t : ∃ ps, o = .tbl ps
    · exact t
    · exact h o (e b o q fun ps z => t ⟨ps, z⟩)
  hid := rfl
  hidk := fun a ha => by
    obtain ⟨⟨xs, hx⟩, _⟩ := sr.hidt a ha
    rw [hx]
    exact e a _ hx fun ps z => by cases z
theorem SR.ofN {G : Gr} {m : Mp} {S : Store} {H H1 : Hp} (sr : SR G m S H) (e : LamX.ExtN H H1) (t : LamX.Tabs G.T H1) : SR G m S H1 := by
  have ex := Ext.ofN sr e
  refine ⟨sr.len, sr.inj, fun n a o h1 h2 => ?_, t, sr.dead, fun a ha => ?_⟩
  · have z := sr.at_ n a o h1 h2
    cases o with
    | dead => exact z.elim
    | lst es => obtain ⟨ys, h, q⟩ := z; exact ⟨ys, e a _ h (fun ps z => by cases z), q.mono sr ex⟩
    | dct kvs => obtain ⟨ys, h, q⟩ := z; exact ⟨ys, e a _ h (fun ps z => by cases z), q.mono sr ex⟩
  · obtain ⟨⟨xs, hx⟩, h⟩ := sr.hidt a ha
    exact ⟨⟨xs, e a _ hx fun ps z => by cases z⟩, h⟩
section
variable {G : Gr} {X : Cx} {W : WX} {x a dflt : Str} {g c P : Addr} {k : Nat} {pg : Arguments} {bg : List Stmt} {sg : Scope} {Ng : List Str} {fd : FuncData} {params : Arguments} {body : Expr} {scope : Scope} {fb : F} {p lpos pos : Pos} {l : List (Value × Str)} {word : Str → Option Str}
theorem e_lam (hK : X.K = G.K) (hMg : X.mg = G.mg) (hg : Gl X x) (hm : X.mg x = some (.ref g)) (D : FunD X.K x x pg bg sg [] [] g fd) (Sg : FnScope Ng [a] sg) (hNg : Ng[0]? = some a) (hva : Vis sg a)
    (hbg : ∀ (kV doc pm : Value) (an : Option Addr) (cdv ct : Value) (us : List Value), us.length = ([a] : List Str).length → bindArgs (PySem.W.fnOf x x pg bg sg Value.none kV doc pm an cdv ct) { pos := us } = pure (([a] : List Str).zip us))
    (hG : ∀ cdv : Value, LamX.GivesTo X Ng x sg g cdv bg a (X.env.qual ++ "<lambda>") (TTm X.K l dflt)) (hw : WordOk G l word)
    (TB : LamX.TabB X.base X.mg c P) (hcode : X.env.code = .ref c) (hmT : (P, X.env.qual ++ "<lambda>") ∈ G.T) (hu : ∀ p ∈ G.T, p.1 = P → p.2 = X.env.qual ++ "<lambda>") (hr : Room (k + 2) X.A) (L : LamX.LamS X.env.scope scope) (hdef : defaultsOf params X.env = ([], []))
    (hbind : ∀ (q : Str) (cl : List (Str × Addr)) (pm cv ctv : Value), bindArgs (PySem.W.kla_fn "<lambda>" q params body scope cl pm cv ctv) ⟨[], []⟩ = pure [])
    (hbody : ∀ (A : Around) (outer : List PySem.Env) (s : Shared) (H : Hp) (E : XK) (f c' : Addr), Room k (A.deeper (LamX.lamEnv X scope s.heap.objs.size f c')) → PE (LamX.lamCx X A outer s H E scope f c') body (tE G (fun cls d _ H => E cls d H) fb))
    (hdb : (x == ("__debug__" : Str)) = false := by decide) (hd : (a == ("__debug__" : Str)) = false := by decide) (hcd : (a == ("__classdict__" : Str)) = false := by decide) :
    PE X (.Call (.Name x p) [.Lambda params body scope lpos] [] pos) (tE G W (lamF word dflt fb)) := by
  have bnd : L2.Binds X.K fd [a] [] := D.bindsN hbg
  obtain ⟨⟨oc, od, dV, kV, doc, pm, an, cdv, ct, osl, rfl, lk, hcd', dfl, kwd⟩, kp⟩ := D
  refine PE.imp (LamX.pe_lamcall (T := G.T) hg hm kp lk hcd' bnd Sg hNg hva (hG cdv) TB hcode hmT hu hr L hdef hbind hbody hdb hd hcd) fun σ H Q ⟨τ, m, S, QD, QE, sr, er, hf, kk, px⟩ => ?_
  refine ⟨sr.tabs, fun H1 eN T1 => ?_⟩
  have e1 := Ext.ofN sr eN
  have sr1 := sr.ofN eN T1
  refine ⟨τ, m, S, _, _, sr1, er.mono sr e1, hf, fun m2 S2 H2 v d e2 sr2 r2 q => kk m2 S2 H2 _ _ (e1.trans e2) sr2 (.str _) q, fun m2 S2 H2 cls dd xx e2 sr2 rx q => ?_⟩
  dsimp only at q
  split at q
  · rename_i r hr
    obtain ⟨C, hC, rfl⟩ := rx.cls
    rw [hK]
    exact hw _ _ C hr hC Q H2 (kk m2 S2 H2 _ _ (e1.trans e2) sr2 (.str _) q)
  · exact q.elim
end
end Dx

set_option Elab.async false
set_option linter.all false
set_option maxRecDepth 100000
set_option maxHeartbeats 4000000
/-! DX, part 11: a def with its contract; the end of a law. -/
namespace Dx
open PySem PySem.Spec PyProof.Rows L2

/-- the module's def x keeps the contract c, by at most level k -/
def Has (P : Program) (w : World) (G : Gr) (base : Heap) (x : Str) (ps : List Str) (k : Nat) (c : Ct) : Prop :=
  ∃ (f : Addr) (fd : FuncData), FnOk P w G.K G.mg base (L2.CX P w) k f fd ps (spD G ps.length c) ∧ G.mg x = some (.ref f) ∧ PySem.W.keepIn G.K (.ref f) = true ∧
    (∀ (s : Shared) (us : List Value), us.length = ps.length → BindsTo s fd ⟨us, []⟩ (ps.zip us)) ∧ ∃ (oc : Value) (od : Option Addr) (osl : Array (Option Value)), G.K.lookup f = some ⟨oc, od, .func fd, osl⟩
theorem Has.mono {P : Program} {w : World} {G : Gr} {base : Heap} {x : Str} {ps : List Str} {j k : Nat} {c : Ct} (h : Has P w G base x ps j c) (hk : j ≤ k) : Has P w G base x ps k c :=
  let ⟨f, fd, a, b, d, e⟩ := h
  ⟨f, fd, a.mono hk, b, d, e⟩
/-- a contract that asks more -/
theorem spD_imp {G : Gr} {n : Nat} {c c' : Ct} (h : ∀ ds S Q E, c' ds S Q E → c ds S Q E) (vs : List V) (H : Hp) (Q : VK) (E : XK) (z : spD G n c' vs H Q E) : spD G n c vs H Q E := by
  obtain ⟨m, S, ds, QD, QE, sr, r, hl, hc, k, px⟩ := z
  exact ⟨m, S, ds, QD, QE, sr, r, hl, h _ _ _ _ hc, k, px⟩
theorem Has.imp {P : Program} {w : World} {G : Gr} {base : Heap} {x : Str} {ps : List Str} {k : Nat} {c c' : Ct} (h : Has P w G base x ps k c) (hc : ∀ ds S Q E, c' ds S Q E → c ds S Q E) : Has P w G base x ps k c' :=
  let ⟨f, fd, a, b, d, e⟩ := h
  ⟨f, fd, a.imp (fun vs H Q E z => spD_imp hc vs H Q E z), b, d, e⟩
section
variable {P : Program} {w : World} {G : Gr} {base : Heap} {x : Str} {N ps : List Str} {k : Nat} {c : Ct} {fs : FS} {st : Stmt} {f : Addr} {fd : FuncData}
/-- a def by its body -/
theorem has_of (D : FunD G.K x x (defArgs st) (defBody st) (defScope st) [] [] f fd) (hm : G.mg x = some (.ref f)) (S : FnScope N ps (defScope st))
    (hb : ∀ (kV doc pm : Value) (an : Option Addr) (cdv ct : Value) (us : List Value), us.length = ps.length → bindArgs (PySem.W.fnOf x x (defArgs st) (defBody st) (defScope st) Value.none kV doc pm an cdv ct) { pos := us } = pure (ps.zip us))
    (hbody : ∀ (cdv : Value) (A : Around) (outer : List PySem.Env) (s : Shared) (H : Hp) (E : XK), (∃ (oc : Value) (od : Option Addr) (fd : FuncData) (osl : Array (Option Value)), G.K.lookup f = some ⟨oc, od, .func fd, osl⟩ ∧ fd.code = cdv ∧ ∃ cc, cdv = .ref cc) → Room k (A.deeper (envOfC x (defScope st) s.heap.objs.size f cdv)) →
      PSs (cxOf (L2.CX P w) P w G.K G.mg base N x (defScope st) f cdv A outer s H E) (defBody st) (tS G (fun cls d _ H => E cls d H) fs))
    (hfs : ∀ ds S Q E, ds.length = ps.length → c ds S Q E → fs (bodyEnds Q E) (startE N ds) S) : Has P w G base x ps (k + 1) c := by
  have bnd := D.bindsA hb
  obtain ⟨⟨oc, od, dV, kV, doc, pm, an, cdv, ct, osl, rfl, lk, hcd', dfl, kwd⟩, kp⟩ := D
  exact ⟨f, _, fn_ok lk hcd' S rfl (fun A outer s H E hr => hbody cdv A outer s H E ⟨oc, od, _, osl, lk, rfl, He.codeIn_ref hcd'⟩ hr) hfs, hm, kp, bnd, _, _, _, lk⟩
end
/-- where nothing is asked -/
theorem has_never {P : Program} {w : World} {G : Gr} {base : Heap} {x : Str} {ps : List Str} {st : Stmt} {f : Addr} {fd : FuncData} (D : FunD G.K x x (defArgs st) (defBody st) (defScope st) [] [] f fd) (hm : G.mg x = some (.ref f))
    (hb : ∀ (kV doc pm : Value) (an : Option Addr) (cdv ct : Value) (us : List Value), us.length = ps.length → bindArgs (PySem.W.fnOf x x (defArgs st) (defBody st) (defScope st) Value.none kV doc pm an cdv ct) { pos := us } = pure (ps.zip us)) : Has P w G base x ps 0 (fun _ _ _ _ => False) := by
  have bnd := D.bindsA hb
  obtain ⟨⟨oc, od, dV, kV, doc, pm, an, cdv, ct, osl, rfl, lk, hcd', dfl, kwd⟩, kp⟩ := D
  exact ⟨f, _, ⟨fun vs H Q E ⟨_, _, _, _, _, _, _, _, z, _⟩ => z.elim, fun _ _ _ _ _ _ _ _ _ _ _ _ _ ⟨_, _, _, _, _, _, _, _, z, _⟩ => z.elim⟩, hm, kp, bnd, _, _, _, lk⟩
theorem never_sized {n : Nat} : Ct.sized (fun _ _ _ _ => False) n := fun _ _ _ _ h => h.elim
section
variable {G : Gr} {X : Cx} {W : WX} {k : Nat} {x : Str} {ps : List Str} {c : Ct} {p pos : Pos} {e : Expr} {es : List Expr} {fa : FG (List D)}
/-- x(..), x a def of the module -/
theorem e_fn (h : Has X.prog X.w G X.base x ps k c) (hK : X.K = G.K) (hM : X.mg = G.mg) (hc : Ct.sized c ps.length) (hr : Room k X.A) (hg : Gl X x) (tk : Takes X W)
    (ha : PA X (e :: es) (tA G W fa)) (hdb : (x == ("__debug__" : Str)) = false) (he : starEach (e :: es) X.env = (false, eval e X.env) :: starEach es X.env) (hpl : (backTo pos (starEach es X.env)).any (·.1) = false) :
    PE X (.Call (.Name x p) (e :: es) [] pos) (tE G W (bindF fa (callC c))) := by
  obtain ⟨f, fd, F, hm, kp, b, _⟩ := h
  rw [← hK, ← hM] at F
  exact e_call F hc hr hg (by rw [hM]; exact hm) (by rw [hK]; exact kp) (fun s us _ hl => by rw [List.append_nil] at hl ⊢; exact b s us hl) tk ha hdb he hpl
theorem e_fn0 (h : Has X.prog X.w G X.base x ps k c) (hK : X.K = G.K) (hM : X.mg = G.mg) (hc : Ct.sized c ps.length) (hr : Room k X.A) (hg : Gl X x) (tk : Takes X W) (hdb : (x == ("__debug__" : Str)) = false) :
    PE X (.Call (.Name x p) [] [] pos) (tE G W (callC c [])) := by
  obtain ⟨f, fd, F, hm, kp, b, _⟩ := h
  rw [← hK, ← hM] at F
  exact e_call0 F hc hr hg (by rw [hM]; exact hm) (by rw [hK]; exact kp) (fun s us _ hl => by rw [List.append_nil] at hl ⊢; exact b s us hl) tk hdb
/-- a number of the module -/
theorem e_glob {i : Int} {t : Tok} (hg : Gl X x) (hm : X.mg x = some (.int i t)) (hdb : (x == ("__debug__" : Str)) = false) : PE X (.Name x pos) (tE G W (retF (.int i))) :=
  e_const (v := .int i) (pe_glob hg hm ⟨t, rfl⟩ hdb) fun m H => .int i
end

/-! ### the end -/
/-- no list of the written part but plain ones -/
def plainL (K : PySem.W.Frag) : Bool := K.all fun q => match q.2 with
  | ⟨.type _, none, .seq _ _, sl⟩ => sl.isEmpty
  | _ => true
theorem plainL_ok {K : PySem.W.Frag} (h : plainL K = true) {H : Hp} {a : Addr} {xs : List V} (s : SqL K H a xs) : SqX K H a xs := by
  rcases s with s | ⟨o, its, n, lk, h1, h2, h3, h4, h5⟩
  · exact .inl s
  · obtain ⟨oc, od, dt, osl⟩ := o
    dsimp only at h1 h2 h3
    subst h1 h2 h3
    have q := List.all_eq_true.mp h _ (He.lookup_mem lk)
    have e : osl = #[] := Array.isEmpty_iff.mp q
    subst e
    exact .inr ⟨its.toList, n, by simpa using lk, by simpa using h4, by simpa using h5⟩
/-- a script as data -/
def scr (ns : List Int) : List D := ns.map .int
theorem repScr {G : Gr} {m : Mp} {H : Hp} : ∀ ns : List Int, RepAll G m H (ns.map V.int) (scr ns)
  | [] => .nil
  | n :: r => .cons (.int n) (repScr r)
def tabsOf (tf : List He.Defn) (K : PySem.W.Frag) : List (Addr × Str) := tf.map fun p => ((He.cT K p).2, p.1 ++ ".<locals>." ++ "<lambda>")
def dd (x : Str) (st : Stmt) : He.DefD := ⟨(x, none), x, x, defArgs st, defBody st, defScope st, [], []⟩
theorem defs_fun {fa : List He.Fa} {fn : List He.DefD} {K : PySem.W.Frag} (Y : He.SaysD fa fn K) {x : Str} {st : Stmt} (h : dd x st ∈ fn) : ∃ fd, FunD K x x (defArgs st) (defBody st) (defScope st) [] [] (He.ga K x) fd := Y.defs h
theorem dx_walk {l : PySem.W.OpenLaw} {n nn k : Nat} {q : Program} {loose : List Str} {XP : (Str → Option Value) → Heap → Prop} {d : DefRec} {fa : List He.Fa} {fn : List He.DefD} {tf : List He.Defn} {ex : PySem.W.Frag → Bool} {nm x : Str} {c : World → Gr → Ct} {st : Stmt}
    (hn : l.most = some n) (hn2 : n ≤ sizeLine) (hdf : d.params.defaults = []) (hnm : d.name = nm) (hr : Room k callerA) (hpl : ∀ K, ex K = true → plainL K = true) (hdl : dd nm st ∈ fn) (hgl : He.Fa.glo nm ∈ fa)
    (hb : ∀ (kV doc pm : Value) (an : Option Addr) (cdv ct : Value) (us : List Value), us.length = ([x] : List Str).length → bindArgs (PySem.W.fnOf nm nm (defArgs st) (defBody st) (defScope st) Value.none kV doc pm an cdv ct) { pos := us } = pure (([x] : List Str).zip us))
    (F : ∀ (w : World) (mg : Str → Option Value) (h : Heap) (K : PySem.W.Frag), K.In h → h.Ns mainGlobals mg → He.SaysX fa fn [] tf ex w h K → ∀ base : Heap, K.In base → base.Ns mainGlobals mg → (∀ p ∈ tf, LamX.TabB base mg (He.cT K p).1 (He.cT K p).2) →
      Has l.prog w ⟨K, mg, tabsOf tf K⟩ base nm [x] k (c w ⟨K, mg, tabsOf tf K⟩))
    (hc : ∀ (w : World) (G : Gr) (ns : List Int), ns.length ≤ n → (∀ z ∈ ns, Builtin.Int.intBits z ≤ 1048576) → c w G [.lst (scr ns)] [] (fun d _ => d = .bl true) noX) :
    PySem.W.WalkO q loose XP (He.hookX nn fa fn [] tf ex).says l.row.toRowW d [] (fun f vs => PySem.call f vs) := by
  subst hnm
  refine LamX.walk_ofTsE (CX := fun w => L2.CX l.prog w) (x := x) hn hn2 hdf hr (fun w mg fad h ⟨K, KX, Y⟩ G hmg => ⟨K, KX, ?_⟩) fun w H s e s' z => ?_
  · have key := F w mg h K KX G Y
    obtain ⟨fd, D⟩ := defs_fun Y.t.d hdl
    have hg2 := He.glo_ok KX G (Y.t.d.facts hgl)
    rw [hg2] at hmg
    cases hmg
    refine ⟨fd, tf.map (He.cT K), spD ⟨K, mg, tabsOf tf K⟩ 1 (c w ⟨K, mg, tabsOf tf K⟩), fun p hp => ?_, fun p hp => ?_, fun p hp => ?_, fun s u => D.bindsA hb s [u] rfl, fun H a ns hlen hbits hH hS => ?_, fun base Kb Gb hT => ?_⟩
    · obtain ⟨q, hq, rfl⟩ := List.mem_map.mp hp
      exact Y.empty q hq
    · obtain ⟨q, hq, rfl⟩ := List.mem_map.mp hp
      exact Y.out q hq
    · obtain ⟨q, hq, rfl⟩ := List.mem_map.mp hp
      exact PySem.W.codeHd_of_K KX (Y.hd q hq)
    · have tb : LamX.Tabs (tabsOf tf K) H := fun p hp => by
        obtain ⟨q, hq, rfl⟩ := List.mem_map.mp hp
        exact .nil (hH _ (List.mem_map.mpr ⟨q, hq, rfl⟩))
      refine ⟨⟨[], []⟩, [], [.lst (scr ns)], fun d _ => d = .bl true, noX, ⟨rfl, fun i j a h => (by cases h), fun i a o h => (by cases h), tb, fun i h => (by cases h), fun a h => (by cases h)⟩, ?_, rfl, hc w _ ns hlen hbits, fun m' S' H' v dd e sr r q => ?_, fun _ _ _ _ _ _ _ _ _ z => z.elim⟩
      · refine .cons ?_ .nil
        rcases plainL_ok (hpl K Y.more) hS with h | h
        · exact .lst h (by rintro (⟨i, z⟩ | z) <;> cases z) (repScr ns)
        · exact .klst h (repScr ns)
      · subst q
        cases r
        rfl
    · obtain ⟨f, fd2, F, hm, kp, b, oc, od, osl, lk⟩ := key base Kb Gb fun p hp => hT _ (List.mem_map.mpr ⟨p, hp, rfl⟩)
      have hm : mg d.name = some (.ref f) := hm
      rw [hg2] at hm
      cases hm
      obtain ⟨⟨oc', od', dV, kV, doc, pm, an, cdv, ct, osl', e, lk', hcd', dfl, kwd⟩, kp'⟩ := D
      have lk : K.lookup (He.ga K d.name) = _ := lk
      rw [lk'] at lk
      cases lk
      exact F
  · obtain ⟨_, _, _, _, _, _, _, _, _, _, _, _, z⟩ := z
    exact z.elim
end Dx

set_option Elab.async false
set_option linter.all false
set_option maxRecDepth 100000
set_option maxHeartbeats 4000000
/-! DX, part 12: the rules with their small premises filled in; short names for readings. -/
namespace Dx
open PySem PySem.Spec PyProof.Rows L2

/-! ### short names -/
abbrev binE (g : D → D → F) (fa fb : F) : F := bindF fa fun x => bindF fb fun y => g x y
abbrev idxE (fa fb : F) : F := bindF fa fun x => bindF fb fun y => idxF x y
abbrev slcE (mu : Bool) (fa : F) (fl fh : FG (Option Int)) : F := bindF fa fun x => bindF fl fun l => bindF fh fun h => slcF mu x l h
abbrev someI (fa : F) : FG (Option Int) := bindF fa intF
abbrev tupE (g : FG (List D)) : F := bindF g fun ds τ S Q E => ds.length ≤ sizeLine ∧ Q (.tup ds) S
abbrev lstE (mu : Bool) (g : FG (List D)) : F := bindF g fun ds τ S Q E => ds.length ≤ sizeLine ∧ newL mu ds τ S Q E
abbrev cmpT (g : D → D → F) (fa fb : F) : FG Bool := bindF fa fun x => bindF fb fun y => bindF (g x y) truF
abbrev truT (f : F) : FG Bool := bindF f truF
abbrev negE (f : F) : F := bindF f fun x => optF fun _ => match x with | .int i => some (.int (-i)) | _ => none
abbrev callE (c : Ct) (fa : FG (List D)) : F := bindF fa (callC c)
abbrev biE (g : List D → F) (fa : FG (List D)) : F := bindF fa g
abbrev itE (f : F) : FG Its' := bindF f itsF
abbrev int! (i : Int) : F := retF (.int i)
abbrev str! (x : Str) : F := retF (.str x)
abbrev non! : F := retF .non
abbrev bl! (b : Bool) : F := retF (.bl b)
abbrev ty! (n : String) : F := retF (.ty n)
abbrev frzE (f : F) : F := bindF f frzF
def fdivG (x y : D) : F := optF (o2I cDiv (fun i j => .int (i.fdiv j)) x y)
def modG (x y : D) : F := optF (o2I (fun _ j => !decide (j = 0)) (fun i j => .int (i.fmod j)) x y)
def powG (x y : D) : F := optF (o2I cPow (fun i j => .int (i ^ j.toNat)) x y)
def shlG (x y : D) : F := optF (o2I cPow (fun i j => .int (i * 2 ^ j.toNat)) x y)
def shrG (x y : D) : F := optF (o2I (fun _ j => decide (0 ≤ j)) (fun i j => .int (i / 2 ^ j.toNat)) x y)
def ltG (x y : D) : F := optF (o2I (fun _ _ => true) (fun i j => .bl (decide (i < j))) x y)
def leG (x y : D) : F := optF (o2I (fun _ _ => true) (fun i j => .bl (decide (i ≤ j))) x y)
def gtG (x y : D) : F := optF (o2I (fun _ _ => true) (fun i j => .bl (decide (j < i))) x y)
def geG (x y : D) : F := optF (o2I (fun _ _ => true) (fun i j => .bl (decide (j ≤ i))) x y)
def eqG (x y : D) : F := optF (eqO x y)
def neG (x y : D) : F := optF (neO x y)
def isG (x y : D) : F := optF (isO false x y)
def isnG (x y : D) : F := optF (isO true x y)
def inG (x y : D) : F := optF (inO false x y)
def ninG (x y : D) : F := optF (inO true x y)

/-! ### a def's context -/
abbrev FX (P : Program) (w : World) (G : Gr) (base : Heap) (N : List Str) (x : Str) (st : Stmt) (f : Addr) (cdv : Value) (A : Around) (outer : List PySem.Env) (s : Shared) (H : Hp) (E : XK) : Cx :=
  cxOf (L2.CX P w) P w G.K G.mg base N x (defScope st) f cdv A outer s H E
abbrev WEx (E : XK) : WX := fun cls d _ H => E cls d H
theorem tkF {P : Program} {w : World} {G : Gr} {base : Heap} {N : List Str} {x : Str} {st : Stmt} {f : Addr} {cdv : Value} {A : Around} {outer : List PySem.Env} {s : Shared} {H : Hp} {E : XK} : Takes (FX P w G base N x st f cdv A outer s H E) (WEx E) := takes_of rfl rfl rfl rfl
theorem poF {P : Program} {w : World} {G : Gr} {base : Heap} {N : List Str} {x : Str} {st : Stmt} {f : Addr} {cdv : Value} {A : Around} {outer : List PySem.Env} {s : Shared} {H : Hp} {E : XK} : PassesOwn (model (FX P w G base N x st f cdv A outer s H E).prog (FX P w G base N x st f cdv A outer s H E).w) (FX P w G base N x st f cdv A outer s H E).A (FX P w G base N x st f cdv A outer s H E).env (FX P w G base N x st f cdv A outer s H E).xe := passes_of rfl

/-! ### small premises -/
def visB (sc : Scope) (x : Str) : Bool := match sc.names.lookup x with
  | some .local | some .cell | some .free => true
  | _ => false
theorem visB_ok {sc : Scope} {x : Str} (h : visB sc x = true) : Vis sc x := by
  unfold visB at h
  split at h
  · exact .inl (by assumption)
  · exact .inr (.inl (by assumption))
  · exact .inr (.inr (by assumption))
  · cases h
def locB (sc : Scope) (x : Str) : Bool := match sc.names.lookup x with
  | some .local | some .cell => true
  | _ => false
theorem locB_ok {sc : Scope} {x : Str} (h : locB sc x = true) : Loc sc x := by
  unfold locB at h
  split at h
  · exact .inl (by assumption)
  · exact .inr (by assumption)
  · cases h
def fnB (X : Cx) (x : Str) : Bool := X.fn x || (match X.env.scope.names.lookup x with | some .local => true | _ => false)
theorem fnB_ok {X : Cx} {x : Str} (h : fnB X x = true) : X.fn x = true ∨ X.env.scope.names.lookup x = some .local := by
  unfold fnB at h
  simp only [Bool.or_eq_true] at h
  rcases h with h | h
  · exact .inl h
  · split at h
    · exact .inr (by assumption)
    · cases h
theorem ne_of_b {x : Str} (h : (x == ("__name__" : Str)) = false) : x ≠ "__name__" := fun e => by rw [e] at h; exact absurd h (by decide)
section
variable {G : Gr} {X : Cx} {W : WX} {a b c e : Expr} {es rest : List Expr} {pos p p2 : Pos} {x : Str} {fa fb fc : F} {g g' : D → D → F} {fl : FG (List D)} {ta tb tc : FG Bool}
/-! ### expressions -/
theorem xv (i : Nat) (hN : X.N[i]? = some x := by kernel_rfl) (hv : visB X.env.scope x = true := by kernel_rfl) (hd : (x == ("__debug__" : Str)) = false := by kernel_rfl) (hcd : (x == ("__classdict__" : Str)) = false := by kernel_rfl) :
    PE X (.Name x pos) (tE G W (varF i)) := e_var hN (visB_ok hv) hd hcd
theorem xi {i : Int} {j} : PE X (.Constant (.int i) j pos) (tE G W (int! i)) := e_const pe_int fun _ _ => .int _
theorem xs {y : Str} {j} : PE X (.Constant (.str y) j pos) (tE G W (str! y)) := e_const pe_str fun _ _ => .str _
theorem xn {j} : PE X (.Constant .none j pos) (tE G W non!) := e_const pe_non fun _ _ => .non
theorem xb {b : Bool} {j} : PE X (.Constant (.bool b) j pos) (tE G W (bl! b)) := e_const pe_bl fun _ _ => .bl _
theorem xneg (h : PE X a (tE G W fa)) : PE X (.UnaryOp .USub a pos) (tE G W (negE fa)) := e_neg h
/-- a module's number -/
theorem xg {i : Int} (hm : ∃ t, G.mg x = some (.int i t)) (hM : X.mg = G.mg := by rfl) (hg : Gl X x := by unfold Gl; kernel_rfl) (hd : (x == ("__debug__" : Str)) = false := by kernel_rfl) : PE X (.Name x pos) (tE G W (int! i)) :=
  let ⟨_, h⟩ := hm
  e_glob hg (by rw [hM]; exact h) hd
theorem xstr {z : Str} (hm : ∃ t, G.mg x = some (.str z t)) (hM : X.mg = G.mg := by rfl) (hg : Gl X x := by unfold Gl; kernel_rfl) (hd : (x == ("__debug__" : Str)) = false := by kernel_rfl) : PE X (.Name x pos) (tE G W (str! z)) :=
  let ⟨t, h⟩ := hm
  e_const (v := .str z) (pe_glob hg (by rw [hM]; exact h) ⟨t, rfl⟩ hd) fun _ _ => .str _
/-- a built-in class as a value -/
theorem xty {T : String} (hm : G.mg x = none) (hM : X.mg = G.mg := by rfl) (hg : Gl X x := by unfold Gl; kernel_rfl) (hv : bootBuiltins x = some (.type T) := by kernel_rfl) (hn : (x == ("__name__" : Str)) = false := by kernel_rfl) (hd : (x == ("__debug__" : Str)) = false := by kernel_rfl) :
    PE X (.Name x pos) (tE G W (ty! T)) := e_const (v := .ty T) (pe_bltn hg (by rw [hM]; exact hm) hv rfl (ne_of_b hn) hd) fun _ _ => .ty _
theorem xbin {op : Operator} (ho : OpF G X (binaryOp op) g) (ha : PE X a (tE G W fa)) (hb : PE X b (tE G W fb)) : PE X (.BinOp a op b pos) (tE G W (binE g fa fb)) := e_bin ho ha hb
theorem xcmp {op : CmpOp} (ho : OpF G X (compareOp op) g) (ha : PE X a (tE G W fa)) (hb : PE X b (tE G W fb)) (hm : behindInMarks op b = false := by kernel_rfl) : PE X (.Compare a [op] [b] pos) (tE G W (binE g fa fb)) := e_cmp ho ha hb hm
theorem xch {op op' : CmpOp} (ho : OpF G X (compareOp op) g) (ho' : OpF G X (compareOp op') g') (ha : PE X a (tE G W fa)) (hb : PE X b (tE G W fb)) (hc : PE X c (tE G W fc)) (hm : lastMarks [op, op'] [b, c] = false := by kernel_rfl) :
    PE X (.Compare a [op, op'] [b, c] pos) (tE G W (chF g g' fa fb fc)) := e_chain ho ho' ha hb hc hm
theorem xix (ha : PE X a (tE G W fa)) (hb : PE X b (tE G W fb)) (hK : X.K = G.K := by rfl) (hs : PlainIx b := by unfold PlainIx; intros; kernel_rfl) : PE X (.Subscript a b pos) (tE G W (idxE fa fb)) := e_idx hK ha hb hs
theorem xsl {lo hi : Option Expr} {ol oh : FG (Option Int)} (mu : Bool) (ha : PE X a (tE G W fa)) (hl : PO X lo (tO G W ol)) (hh : PO X hi (tO G W oh)) (hK : X.K = G.K := by rfl) : PE X (.Subscript a (.Slice lo hi none p2) pos) (tE G W (slcE mu fa ol oh)) := e_slc hK mu ha hl hh
theorem on : PO X none (tO G W noF) := o_none
theorem os (h : PE X e (tE G W fa)) : PO X (some e) (tO G W (someI fa)) := o_some h
theorem xnil : PA X [] (tA G W nilF) := a_nil
theorem xcons (ha : PE X e (tE G W fa)) (hr : PA X es (tA G W fl)) (hs : starEach (e :: es) X.env = (false, eval e X.env) :: starEach es X.env := by kernel_rfl) : PA X (e :: es) (tA G W (consF fa fl)) := a_cons ha hr hs
theorem xtup {x1} (h : PA X es (tA G W fl)) : PE X (.Tuple es x1 pos) (tE G W (tupE fl)) := e_tup h
theorem xlst (mu : Bool) (h : PA X es (tA G W fl)) : PE X (.List es pos) (tE G W (lstE mu fl)) := e_lst mu h
theorem xfn {ps : List Str} {k j : Nat} {c : Ct} (h : Has X.prog X.w G X.base x ps j c) (hc : Ct.sized c ps.length) (hr : Room k X.A) (hj : j ≤ k) (tk : Takes X W) (ha : PA X (e :: es) (tA G W fl)) (hK : X.K = G.K := by rfl) (hM : X.mg = G.mg := by rfl) (hg : Gl X x := by unfold Gl; kernel_rfl)
    (hd : (x == ("__debug__" : Str)) = false := by kernel_rfl) (he : starEach (e :: es) X.env = (false, eval e X.env) :: starEach es X.env := by kernel_rfl) (hpl : (backTo pos (starEach es X.env)).any (·.1) = false := by kernel_rfl) :
    PE X (.Call (.Name x p) (e :: es) [] pos) (tE G W (callE c fl)) := e_fn h hK hM hc (hr.mono hj) hg tk ha hd he hpl
theorem xfn0 {ps : List Str} {k j : Nat} {c : Ct} (h : Has X.prog X.w G X.base x ps j c) (hc : Ct.sized c ps.length) (hr : Room k X.A) (hj : j ≤ k) (tk : Takes X W) (hK : X.K = G.K := by rfl) (hM : X.mg = G.mg := by rfl) (hg : Gl X x := by unfold Gl; kernel_rfl)
    (hd : (x == ("__debug__" : Str)) = false := by kernel_rfl) : PE X (.Call (.Name x p) [] [] pos) (tE G W (callC c [])) := e_fn0 h hK hM hc (hr.mono hj) hg tk hd
theorem xcB {id : String} {gb : List D → F} (hc : BF G X (.builtin id) gb) (hm : G.mg x = none) (ha : PA X (e :: es) (tA G W fl)) (hM : X.mg = G.mg := by rfl) (hg : Gl X x := by unfold Gl; kernel_rfl) (hv : bootBuiltins x = some (.builtin id) := by kernel_rfl) (hn : (x == ("__name__" : Str)) = false := by kernel_rfl)
    (hd : (x == ("__debug__" : Str)) = false := by kernel_rfl) (he : starEach (e :: es) X.env = (false, eval e X.env) :: starEach es X.env := by kernel_rfl) (hpl : (backTo pos (starEach es X.env)).any (·.1) = false := by kernel_rfl) :
    PE X (.Call (.Name x p) (e :: es) [] pos) (tE G W (biE gb fl)) := e_callB hc hg (by rw [hM]; exact hm) hv ha (ne_of_b hn) hd he hpl
theorem xcT {T : String} {gb : List D → F} (hc : BF G X (.type T) gb) (hm : G.mg x = none) (ha : PA X (e :: es) (tA G W fl)) (hM : X.mg = G.mg := by rfl) (hg : Gl X x := by unfold Gl; kernel_rfl) (hv : bootBuiltins x = some (.type T) := by kernel_rfl) (hn : (x == ("__name__" : Str)) = false := by kernel_rfl)
    (hd : (x == ("__debug__" : Str)) = false := by kernel_rfl) (he : starEach (e :: es) X.env = (false, eval e X.env) :: starEach es X.env := by kernel_rfl) (hpl : (backTo pos (starEach es X.env)).any (·.1) = false := by kernel_rfl) :
    PE X (.Call (.Name x p) (e :: es) [] pos) (tE G W (biE gb fl)) := e_callTy hc hg (by rw [hM]; exact hm) hv ha (ne_of_b hn) hd he hpl
theorem xcF {id : String} {gb : List D → F} (hc : BF G X (.builtin id) gb) (hm : G.mg x = some (.builtin id)) (ha : PA X (e :: es) (tA G W fl)) (hM : X.mg = G.mg := by rfl) (hg : Gl X x := by unfold Gl; kernel_rfl)
    (hd : (x == ("__debug__" : Str)) = false := by kernel_rfl) (he : starEach (e :: es) X.env = (false, eval e X.env) :: starEach es X.env := by kernel_rfl) (hpl : (backTo pos (starEach es X.env)).any (·.1) = false := by kernel_rfl) :
    PE X (.Call (.Name x p) (e :: es) [] pos) (tE G W (biE gb fl)) := e_callBfun hc hg (by rw [hM]; exact hm) ha hd he hpl
theorem xand (ha : PE X a (tE G W fa)) (hb : PE X (.BoolOp .And (b :: rest) pos) (tE G W fb)) (hK : X.K = G.K := by rfl) : PE X (.BoolOp .And (a :: b :: rest) pos) (tE G W (andV fa fb)) := e_andV hK ha hb
theorem xor' (ha : PE X a (tE G W fa)) (hb : PE X (.BoolOp .Or (b :: rest) pos) (tE G W fb)) (hK : X.K = G.K := by rfl) : PE X (.BoolOp .Or (a :: b :: rest) pos) (tE G W (orV fa fb)) := e_orV hK ha hb
theorem xone {op} (h : PE X a (tE G W fa)) : PE X (.BoolOp op [a] pos) (tE G W fa) := pe_one h
theorem xnot (ha : PE X a (tE G W fa)) (hK : X.K = G.K := by rfl) : PE X (.UnaryOp .Not a pos) (tE G W (notV fa)) := e_notV hK ha
theorem xife (hc : PT X c (tT G W tc)) (ha : PE X a (tE G W fa)) (hb : PE X b (tE G W fb)) : PE X (.IfExp c a b pos) (tE G W (iteV tc fa fb)) := e_ife hc ha hb
/-! ### tests -/
theorem tt (ha : PE X a (tE G W fa)) (hK : X.K = G.K := by rfl) (he : ∀ whole, isTrue a X.env whole = (do let v ← whole; standAt a.pos; holding [v] (truthy v)) := by intros; kernel_rfl) : PT X a (tT G W (truT fa)) := t_truth hK ha he
def BlG (g : D → D → F) : Prop := ∀ x y τ S Q E, g x y τ S Q E → g x y τ S (fun d S' => ∃ b, d = .bl b ∧ Q d S') E
theorem tcmp {op : CmpOp} (ho : OpF G X (compareOp op) g) (hg : BlG g) (ha : PE X a (tE G W fa)) (hb : PE X b (tE G W fb)) (hm : behindInMarks op b = false := by kernel_rfl) : PT X (.Compare a [op] [b] pos) (tT G W (cmpT g fa fb)) := t_cmp ho hg ha hb hm
theorem tch {op op' : CmpOp} (ho : OpF G X (compareOp op) g) (ho' : OpF G X (compareOp op') g') (hg' : BlG g') (ha : PE X a (tE G W fa)) (hb : PE X b (tE G W fb)) (hc : PE X c (tE G W fc)) (hm : lastMarks [op, op'] [b, c] = false := by kernel_rfl) :
    PT X (.Compare a [op, op'] [b, c] pos) (tT G W (chT g g' fa fb fc)) := t_chain ho ho' hg' ha hb hc hm
theorem tnot (ha : PT X a (tT G W ta)) : PT X (.UnaryOp .Not a pos) (tT G W (notF ta)) := t_not ha
theorem wa1 (ha : PT X a (tT G W ta)) : PW X (.BoolOp .And [a] pos) (tT G W ta) := w_one_and ha
theorem wo1 (ha : PT X a (tT G W ta)) : PW X (.BoolOp .Or [a] pos) (tT G W ta) := w_one_or ha
theorem wa (ha : PT X a (tT G W ta)) (hb : PW X (.BoolOp .And (b :: rest) pos) (tT G W tb)) : PW X (.BoolOp .And (a :: b :: rest) pos) (tT G W (andF ta tb)) := w_and ha hb
theorem wo (ha : PT X a (tT G W ta)) (hb : PW X (.BoolOp .Or (b :: rest) pos) (tT G W tb)) : PW X (.BoolOp .Or (a :: b :: rest) pos) (tT G W (orF ta tb)) := w_or ha hb
end

/-! ### operators -/
theorem optF_bl {o : Store → Option D} {τ : Env} {S : Store} {Q : D → Store → Prop} {E : QX} (h : ∀ d, o S = some d → ∃ b, d = .bl b) (q : optF o τ S Q E) : optF o τ S (fun d S' => ∃ b, d = .bl b ∧ Q d S') E := by
  unfold optF at q ⊢
  cases e : o S with
  | none => rw [e] at q; exact q.elim
  | some d =>
    rw [e] at q
    obtain ⟨b, rfl⟩ := h _ e
    exact ⟨b, rfl, q⟩
theorem bl_opt {o : D → D → Store → Option D} (h : ∀ x y S d, o x y S = some d → ∃ b, d = .bl b) : BlG fun x y => optF (o x y) := fun x y τ S Q E q => optF_bl (h x y S) q
theorem bl_o2I {C : Int → Int → Bool} {f : Int → Int → Bool} : BlG fun x y => optF (o2I C (fun i j => .bl (f i j)) x y) := bl_opt fun x y S d h => by
  unfold o2I at h
  split at h
  · split at h
    · cases h; exact ⟨_, rfl⟩
    · cases h
  · cases h
theorem bl_lt : BlG ltG := bl_o2I
theorem bl_le : BlG leG := bl_o2I
theorem bl_gt : BlG gtG := bl_o2I
theorem bl_ge : BlG geG := bl_o2I
theorem bl_eq : BlG eqG := bl_opt fun x y S d h => by unfold eqO at h; split at h <;> cases h; exact ⟨_, rfl⟩
theorem bl_ne : BlG neG := bl_opt fun x y S d h => by unfold neO at h; split at h <;> cases h; exact ⟨_, rfl⟩
theorem isO_bl {neg : Bool} (x y : D) (S : Store) (d : D) (h : isO neg x y S = some d) : ∃ b, d = .bl b := by
  unfold isO at h
  split at h <;> first | (cases h; exact ⟨_, rfl⟩) | (split at h <;> cases h; exact ⟨_, rfl⟩) | cases h
theorem inO_bl {neg : Bool} (x y : D) (S : Store) (d : D) (h : inO neg x y S = some d) : ∃ b, d = .bl b := by
  unfold inO at h
  split at h
  · split at h
    · cases h; exact ⟨_, rfl⟩
    · cases h
  · cases h
theorem bl_is : BlG isG := bl_opt isO_bl
theorem bl_isn : BlG isnG := bl_opt isO_bl
theorem bl_in : BlG inG := bl_opt inO_bl
theorem bl_nin : BlG ninG := bl_opt inO_bl
theorem Room.u64 {k : Nat} {A : Around} (r : Room k A) : A.units + 64 < cLine := by have := r.un; omega
theorem Room.u65 {k : Nat} {A : Around} (r : Room k A) : A.units + 65 < cLine := by have := r.un; omega
section
variable {G : Gr} {X : Cx}
theorem ofdiv : OpF G X (binaryOp .FloorDiv) fdivG := opd_fdiv
theorem omod : OpF G X (binaryOp .Mod) modG := opd_mod
theorem opow : OpF G X (binaryOp .Pow) powG := opd_pow
theorem oshl : OpF G X (binaryOp .LShift) shlG := opd_shl
theorem oshr : OpF G X (binaryOp .RShift) shrG := opd_shr
theorem olt : OpF G X (compareOp .Lt) ltG := opd_lt
theorem ole : OpF G X (compareOp .LtE) leG := opd_le
theorem ogt : OpF G X (compareOp .Gt) gtG := opd_gt
theorem oge : OpF G X (compareOp .GtE) geG := opd_ge
theorem oeq {k : Nat} (hr : Room k X.A) (hK : X.K = G.K := by rfl) : OpF G X (compareOp .Eq) eqG := opd_eq hK (Room.u64 hr)
theorem one' {k : Nat} (hr : Room k X.A) (hK : X.K = G.K := by rfl) : OpF G X (compareOp .NotEq) neG := opd_ne hK (Room.u64 hr)
theorem ois : OpF G X (compareOp .Is) isG := opd_is
theorem oisn : OpF G X (compareOp .IsNot) isnG := opd_isnot
theorem oin {k : Nat} (hr : Room k X.A) (hK : X.K = G.K := by rfl) : OpF G X (compareOp .In) inG := opd_in hK (Room.u65 hr)
theorem onin {k : Nat} (hr : Room k X.A) (hK : X.K = G.K := by rfl) : OpF G X (compareOp .NotIn) ninG := opd_notIn hK (Room.u65 hr)
theorem oadd (mu : Bool) (hK : X.K = G.K := by rfl) : OpF G X (binaryOp .Add) (addF mu) := opf_add hK mu
theorem osub : OpF G X (binaryOp .Sub) subF := opf_sub
theorem omul (mu : Bool) (hK : X.K = G.K := by rfl) : OpF G X (binaryOp .Mult) (mulF mu) := opf_mul hK mu
end
section
variable {G : Gr} {X : Cx} {W : WX} {e tg it elt : Expr} {ifs : List Expr} {pos p p2 pos' : Pos} {x : Str} {fe : F} {fl : FG (List D)} {t : Tg} {f : FS}
/-! ### statements -/
theorem sset (i : Nat) (nd : X.N.Nodup) (he : PE X e (tE G W fe)) (hi : X.N[i]? = some x := by kernel_rfl) (hx : locB X.env.scope x = true := by kernel_rfl) (hs : swapsWith e (some (.Name x pos')) pos.line X.env = pure false := by kernel_rfl) (hf : fnB X x = true := by kernel_rfl) :
    PS X (.Assign [.Name x pos'] e pos) (tS G W (setS i fe)) := s_set nd hi (locB_ok hx) he hs (fnB_ok hf)
theorem sexpr (he : PE X e (tE G W fe)) (hs : swapsWith e none pos.line X.env = pure false := by kernel_rfl) : PS X (.Expr e pos) (tS G W (exprS fe)) := s_expr he hs
theorem gname (i : Nat) (nd : X.N.Nodup) (hi : X.N[i]? = some x := by kernel_rfl) (hx : locB X.env.scope x = true := by kernel_rfl) (hf : fnB X x = true := by kernel_rfl) : GOk G X (.Name x pos) (.name i) := g_name nd hi (locB_ok hx) (fnB_ok hf)
theorem gcons {es : List Expr} {ts : List Tg} (h1 : GOk G X e t) (h2 : GsOk G X es ts) (hs : (assignEach (e :: es) X.env).map (·.2) = assign e X.env :: (assignEach es X.env).map (·.2) := by kernel_rfl) : GsOk G X (e :: es) (t :: ts) := gs_cons h1 h2 hs
theorem gtup {es : List Expr} {kk : Nat} {ts : List Tg} {n : Nat} (h : GsOk G X es ts) (hK : X.K = G.K := by rfl) (hc : X.calm = true := by rfl) (hl : ts.length = n := by rfl) (hn : (assignEach es X.env).length = n := by kernel_rfl) (hst : (assignEach es X.env).findIdx? (·.1) = none := by kernel_rfl) :
    GOk G X (.Tuple es kk pos) (.tup ts) := g_tup hK hc h hl hn hst
theorem sasg (he : PE X e (tE G W fe)) (hg : GOk G X tg t) (hs : swapsWithSole [tg] e pos.line X.env = pure false := by kernel_rfl) (hw : swappedStores [tg] e X.env = pure none := by kernel_rfl) (h1 : (assignEach [tg] X.env).map (·.2) = [assign tg X.env] := by kernel_rfl) :
    PS X (.Assign [tg] e pos) (tS G W (asgS t fe)) := s_asg he hg hs hw h1
theorem sub' {o i : Expr} {fo fi : F} {sp : Pos} (he : PE X e (tE G W fe)) (ho : PE X o (tE G W fo)) (hi : PE X i (tE G W fi))
    (ha : ∀ v, assign (.Subscript o i sp) X.env v = (do
      let ov ← holding [v] (eval o X.env)
      let iv ← holding [v, ov] (eval i X.env)
      standAt sp
      holding [v, ov, iv] (setItem ov iv v)
      release [v, ov, iv] []) := by intros; kernel_rfl)
    (hs : swapsWithSole [.Subscript o i sp] e pos.line X.env = pure false := by kernel_rfl) (hw : swappedStores [.Subscript o i sp] e X.env = pure none := by kernel_rfl) (h1 : (assignEach [.Subscript o i sp] X.env).map (·.2) = [assign (.Subscript o i sp) X.env] := by kernel_rfl) :
    PS X (.Assign [.Subscript o i sp] e pos) (tS G W (subS fe fo fi)) := s_sub he ho hi ha hs hw h1
theorem sfor {body : List Stmt} {fi : FG Its'} (hp : PassesOwn (model X.prog X.w) X.A X.env X.xe) (hi : PI X tg it (tI G W fi)) (hg : GOk G X tg t) (hb : PSs X body (tS G W f)) (hc : X.calm = true := by rfl) (hs : ∀ x, foldedSetIterable it X.env x = pure x := by intros; kernel_rfl) :
    PS X (.For tg it body [] pos) (tS G W (forS fi t f)) := s_for hp hc hi hg hb hs
theorem spar {x y : Str} {a b : Expr} {px py pt : Pos} {kt k2 pt2} (i j : Nat) (nd : X.N.Nodup) (ha : PA X [a, b] (tA G W fl)) (hc : X.calm = true := by rfl) (hi : X.N[i]? = some x := by kernel_rfl) (hj : X.N[j]? = some y := by kernel_rfl) (hij : i ≠ j := by decide)
    (hx : X.env.scope.names.lookup x = some .local := by kernel_rfl) (hy : X.env.scope.names.lookup y = some .local := by kernel_rfl)
    (hw : swappedStores [.Tuple [.Name x px, .Name y py] kt pt] (.Tuple [a, b] k2 pt2) X.env = pure (some [x, y]) := by kernel_rfl)
    (hs : swapsWithSole [.Tuple [.Name x px, .Name y py] kt pt] (.Tuple [a, b] k2 pt2) pos.line X.env = pure false := by kernel_rfl) :
    PS X (.Assign [.Tuple [.Name x px, .Name y py] kt pt] (.Tuple [a, b] k2 pt2) pos) (tS G W (parS i j fl)) := s_par hc nd hi hj hij hx hy ha hw hs
/-- an exception's class of the module -/
structure ExcK (G : Gr) (x : Str) : Prop where
  ex : ∃ C, G.mg x = some (.ref C) ∧ PySem.W.excIn G.K C He.veBase "ValueError.__new__" = true ∧ PySem.W.keepIn G.K (.ref C) = true ∧ PySem.W.subIn G.K (.ref C) (.type "BaseException") = some true ∧ PySem.W.typeIn G.K (.ref C) = some (.type "type")
theorem sraise {m : Str} {j : Nat} {p pos2 : Pos} (T : ExcK G x) (tk : Takes X W) (hK : X.K = G.K := by rfl) (hM : X.mg = G.mg := by rfl) (hc : X.calm = true := by rfl) (hg : Gl X x := by unfold Gl; kernel_rfl) (hd : (x == ("__debug__" : Str)) = false := by kernel_rfl) :
    PS X (.Raise (some (.Call (.Name x p) [.Constant (.str m) j p2] [] pos)) none pos2) (tS G W (raiseS x)) := by
  obtain ⟨C, h1, h2, h3, h4, h5⟩ := T.ex
  exact s_raise hM hc tk PySem.F.excBase_ValueError (by rw [hK]; exact h2) (by rw [hM]; exact h1) (by rw [hK]; exact h3) (raises_own (by rw [hK]; exact h4) (by rw [hK]; exact h5)) hg hd
end
/-! ### walked things, comprehensions -/
section
variable {G : Gr} {X : Cx} {W : WX} {tg e a b c : Expr} {es : List Expr} {pos p : Pos} {fe fa fb : F} {fl : FG (List D)}
theorem ival (he : PE X e (tE G W fe)) (hK : X.K = G.K := by rfl) : PI X tg e (tI G W (itE fe)) := i_val hK he
theorem irng1 (hm : G.mg "range" = none) (ha : PA X [a] (tA G W fl)) (hM : X.mg = G.mg := by rfl) (hg : Gl X "range" := by unfold Gl; kernel_rfl) (hs : starEach [a] X.env = [(false, eval a X.env)] := by kernel_rfl) : PI X tg (.Call (.Name "range" p) [a] [] pos) (tI G W (bindF fl rng1)) := i_rng1 hg (by rw [hM]; exact hm) ha hs
theorem irng2 (hm : G.mg "range" = none) (ha : PA X [a, b] (tA G W fl)) (hM : X.mg = G.mg := by rfl) (hg : Gl X "range" := by unfold Gl; kernel_rfl) (hs : starEach [a, b] X.env = [(false, eval a X.env), (false, eval b X.env)] := by kernel_rfl) (hs2 : starEach [b] X.env = [(false, eval b X.env)] := by kernel_rfl) :
    PI X tg (.Call (.Name "range" p) [a, b] [] pos) (tI G W (bindF fl rng2)) := i_rng2 hg (by rw [hM]; exact hm) ha hs hs2
theorem irng3 (hm : G.mg "range" = none) (ha : PA X [a, b, c] (tA G W fl)) (hM : X.mg = G.mg := by rfl) (hg : Gl X "range" := by unfold Gl; kernel_rfl) (hs : starEach [a, b, c] X.env = (false, eval a X.env) :: starEach [b, c] X.env := by kernel_rfl) (hpl : (backTo pos (starEach [b, c] X.env)).any (·.1) = false := by kernel_rfl) :
    PI X tg (.Call (.Name "range" p) [a, b, c] [] pos) (tI G W (bindF fl rng3)) := i_rng3 hg (by rw [hM]; exact hm) ha hs hpl
end
/-- the contexts of a comprehension's block -/
abbrev BI := Shared × Hp × Addr × List (Str × Addr) × List Addr
abbrev BX (X : Cx) (scope : Scope) (i : BI) : Cx := X.blk i.1 i.2.1 scope (compEnvC scope i.2.2.2.1 i.2.2.1 X.env) i.2.2.2.2
def GOkF (G : Gr) (XF : BI → Cx) (target : Expr) (t : Tg) : Prop :=
  ∃ g : TG, (∀ i, PG (XF i) target g) ∧ ∀ (m : Mp) (S : Store) (H : Hp) (σ : L2.St) (τ τ' : Env) (v : V) (d : D) (Q : L2.St → Hp → Prop), SR G m S H → EnvR G m H σ τ → Rep G m H v d → bindT t d τ = some τ' → (∀ σ', EnvR G m H σ' τ' → SameBut (slotsT t) σ σ' → Q σ' H) → g v σ H Q
def GsOkF (G : Gr) (XF : BI → Cx) (es : List Expr) (ts : List Tg) : Prop :=
  ∃ g : TGs, (∀ i, PGs (XF i) es g) ∧ ∀ (m : Mp) (S : Store) (H : Hp) (σ : L2.St) (τ τ' : Env) (vs : List V) (ds : List D) (Q : L2.St → Hp → Prop), SR G m S H → EnvR G m H σ τ → RepAll G m H vs ds → bindTs ts ds τ = some τ' → (∀ σ', EnvR G m H σ' τ' → SameBut (slotsTs ts) σ σ' → Q σ' H) → g vs σ H Q
section
variable {G : Gr} {XF : BI → Cx} {pos : Pos}
theorem gnameF {x : Str} (i : Nat) (nd : ∀ b, (XF b).N.Nodup) (hi : ∀ b, (XF b).N[i]? = some x := by intro; kernel_rfl) (hx : ∀ b, locB (XF b).env.scope x = true := by intro; kernel_rfl) (hf : ∀ b, fnB (XF b) x = true := by intro; kernel_rfl) : GOkF G XF (.Name x pos) (.name i) :=
  ⟨gName i, fun b => pg_name (nd b) (hi b) (locB_ok (hx b)) (fnB_ok (hf b)), fun m S H σ τ τ' v d Q sr er r h k => by
    simp only [bindT] at h
    cases h
    exact k _ (er.set r i) ⟨by simp, fun j hj => List.getElem?_set_ne (fun e => hj (by simp [slotsT, e]))⟩⟩
theorem gnilF : GsOkF G XF [] [] :=
  ⟨gNil, fun _ => pgs_nil, fun m S H σ τ τ' vs ds Q sr er r h k => by
    cases r with
    | nil => simp only [bindTs] at h; cases h; exact ⟨rfl, k σ er ⟨rfl, fun _ _ => rfl⟩⟩
    | cons a r => simp only [bindTs] at h; cases h⟩
theorem gconsF {e : Expr} {es : List Expr} {t : Tg} {ts : List Tg} (h1 : GOkF G XF e t) (h2 : GsOkF G XF es ts) (hs : ∀ b, (assignEach (e :: es) (XF b).env).map (·.2) = assign e (XF b).env :: (assignEach es (XF b).env).map (·.2) := by intro; kernel_rfl) : GsOkF G XF (e :: es) (t :: ts) := by
  obtain ⟨g1, p1, k1⟩ := h1
  obtain ⟨g2, p2, k2⟩ := h2
  refine ⟨gCons g1 g2, fun b => pgs_cons (p1 b) (p2 b) (hs b), fun m S H σ τ τ' vs ds Q sr er r h k => ?_⟩
  cases r with
  | nil => simp only [bindTs] at h; cases h
  | cons a r =>
    simp only [bindTs] at h
    obtain ⟨τ1, h3, h4⟩ := Option.bind_eq_some_iff.mp h
    exact ⟨_, _, rfl, k1 m S H σ τ τ1 _ _ _ sr er a h3 fun σ1 er1 s1 => k2 m S H σ1 τ1 τ' _ _ Q sr er1 r h4 fun σ2 er2 s2 => k σ2 er2 (s1.trans s2)⟩
theorem gtupF {es : List Expr} {kk : Nat} {ts : List Tg} {n : Nat} (h : GsOkF G XF es ts) (hK : ∀ b, (XF b).K = G.K := by intro; rfl) (hc : ∀ b, (XF b).calm = true := by intro; rfl) (hl : ts.length = n := by rfl) (hn : ∀ b, (assignEach es (XF b).env).length = n := by intro; kernel_rfl)
    (hst : ∀ b, (assignEach es (XF b).env).findIdx? (·.1) = none := by intro; kernel_rfl) : GOkF G XF (.Tuple es kk pos) (.tup ts) := by
  obtain ⟨g, p, k⟩ := h
  refine ⟨gTup G.K n g, fun b => by rw [← hK b]; exact pg_tup (hc b) (p b) (hn b) (hst b), fun m S H σ τ τ' v d Q sr er r h kk => ?_⟩
  cases d with
  | tup ds =>
    simp only [bindT] at h
    obtain ⟨a, xs, rfl, t1, ra⟩ := r.getT rfl
    refine ⟨a, xs, rfl, t1, ?_, k m S H σ τ τ' xs ds Q sr er ra h fun σ' e s => kk σ' e (by simpa [slotsT] using s)⟩
    rw [ra.length, ← bindTs_len ts ds τ τ' h, hl]
  | _ => simp [bindT] at h
end
section
variable {G : Gr} {X : Cx} {W : WX} {elt tg iter : Expr} {ifs : List Expr} {scope : Scope} {pos pos' spos : Pos} {t : Tg} {ft : FG Bool} {fe : F} {fi : FG Its'}
theorem blkE (hg : GOkF G (BX X scope) tg t) (hts : ∀ b, PTs (BX X scope b) ifs (tT G W0 ft)) (hel : ∀ b, PE (BX X scope b) elt (tE G W0 fe)) : BlkE G X tg elt ifs scope t ft fe := by
  obtain ⟨g, p, k⟩ := hg
  exact ⟨⟨g, fun s H C cl fp => p (s, H, C, cl, fp), k⟩, fun s H C cl fp => hts (s, H, C, cl, fp), fun s H C cl fp => hel (s, H, C, cl, fp)⟩
theorem xlc (mu : Bool) (own : List (Str × Nat)) (nd : X.N.Nodup) (hi : PI X tg iter (tI G W fi)) (hg : GOkF G (BX X scope) tg t) (hts : ∀ b, PTs (BX X scope b) ifs (tT G W0 ft)) (hel : ∀ b, PE (BX X scope b) elt (tE G W0 fe)) (hc : X.calm = true := by rfl)
    (ok : blkC X.N X.env.scope scope own = true := by kernel_rfl) (hs : ∀ x, foldedSetIterable iter X.env x = pure x := by intros; kernel_rfl) (hvs : ∀ i ∈ slotsT t, i ∈ own.map (·.2) := by decide) :
    PE X (.ListComp elt [⟨tg, iter, ifs, 0⟩] scope pos) (tE G W (compF mu fi t ft fe (own.map (·.2)))) := e_lc hc nd hi (blkOk_by ok) (blkE hg hts hel) hs hvs
theorem ssetlc {y : Str} {py : Pos} (i : Nat) (mu : Bool) (own : List (Str × Nat)) (nd : X.N.Nodup) (hi : PI X tg iter (tI G W fi)) (hg : GOkF G (BX X scope) tg t) (hts : ∀ b, PTs (BX X scope b) ifs (tT G W0 ft)) (hel : ∀ b, PE (BX X scope b) elt (tE G W0 fe)) (hc : X.calm = true := by rfl)
    (hy : X.N[i]? = some y := by kernel_rfl) (hyl : X.env.scope.names.lookup y = some .local := by kernel_rfl) (hsw : swapsWith (.ListComp elt [⟨tg, iter, ifs, 0⟩] scope pos) (some (.Name y py)) spos.line X.env = pure true := by kernel_rfl)
    (ok : blkC X.N X.env.scope scope own = true := by kernel_rfl) (hs : ∀ x, foldedSetIterable iter X.env x = pure x := by intros; kernel_rfl) (hvs : ∀ i ∈ slotsT t, i ∈ own.map (·.2) := by decide) :
    PS X (.Assign [.Name y py] (.ListComp elt [⟨tg, iter, ifs, 0⟩] scope pos) spos) (tS G W (setS i (compF mu fi t ft fe (own.map (·.2))))) := s_setLc hc nd hy hyl hsw hi (blkOk_by ok) (blkE hg hts hel) hs hvs
end

/-! ### x(lambda: e), x a def that tells an error's word -/
def hdl (K : PySem.W.Frag) (hs : List (Str × Str)) : List (Value × Str) := hs.map fun q => (.ref (He.ga K q.1), q.2)
structure Teller (G : Gr) (x : Str) (st : Stmt) (word : Str → Option Str) (hs : List (Str × Str)) : Prop where
  gx : G.mg x = some (.ref (He.ga G.K x))
  fn : ∃ fd, FunD G.K x x (defArgs st) (defBody st) (defScope st) [] [] (He.ga G.K x) fd
  word : WordOk G (hdl G.K hs) word
  cls : ∀ q ∈ hs, G.mg q.1 = some (.ref (He.ga G.K q.1))
section
variable {G : Gr} {X : Cx} {W : WX} {x a dflt : Str} {c P : Addr} {k : Nat} {st : Stmt} {Ng : List Str} {params : Arguments} {body : Expr} {scope : Scope} {fb : F} {p lpos pos : Pos} {hs : List (Str × Str)} {word : Str → Option Str}
theorem xlam (T : Teller G x st word hs) (Sg : FnScope Ng [a] (defScope st)) (hG : ∀ cdv : Value, LamX.GivesTo X Ng x (defScope st) (He.ga G.K x) cdv (defBody st) a (X.env.qual ++ "<lambda>") (TTm X.K (hdl G.K hs) dflt))
    (TB : LamX.TabB X.base X.mg c P) (hmT : (P, X.env.qual ++ "<lambda>") ∈ G.T) (hu : ∀ p ∈ G.T, p.1 = P → p.2 = X.env.qual ++ "<lambda>") (hr : Room k X.A) (h2 : 2 ≤ k)
    (hbody : ∀ (A : Around) (outer : List PySem.Env) (s : Shared) (H : Hp) (E : XK) (f c' : Addr), Room (k - 2) (LamX.lamCx X A outer s H E scope f c').A → PE (LamX.lamCx X A outer s H E scope f c') body (tE G (WEx E) fb))
    (hK : X.K = G.K := by rfl) (hM : X.mg = G.mg := by rfl) (hg : Gl X x := by unfold Gl; kernel_rfl) (hNg : Ng[0]? = some a := by kernel_rfl) (hva : visB (defScope st) a = true := by kernel_rfl)
    (hbg : ∀ (kV doc pm : Value) (an : Option Addr) (cdv ct : Value) (us : List Value), us.length = ([a] : List Str).length → bindArgs (PySem.W.fnOf x x (defArgs st) (defBody st) (defScope st) Value.none kV doc pm an cdv ct) { pos := us } = pure (([a] : List Str).zip us) := by intro kV doc pm an cdv ct us hl; exact match us, hl with | [_], _ => by kernel_rfl)
    (hcode : X.env.code = .ref c := by rfl) (hL : LamX.lamSB X.env.scope scope = true := by kernel_rfl) (hdef : defaultsOf params X.env = ([], []) := by kernel_rfl)
    (hbind : ∀ (q : Str) (cl : List (Str × Addr)) (pm cv ctv : Value), bindArgs (PySem.W.kla_fn "<lambda>" q params body scope cl pm cv ctv) ⟨[], []⟩ = pure [] := by intros; kernel_rfl)
    (hdb : (x == ("__debug__" : Str)) = false := by kernel_rfl) (hd : (a == ("__debug__" : Str)) = false := by kernel_rfl) (hcd : (a == ("__classdict__" : Str)) = false := by kernel_rfl) :
    PE X (.Call (.Name x p) [.Lambda params body scope lpos] [] pos) (tE G W (lamF word dflt fb)) := by
  obtain ⟨fd, D⟩ := T.fn
  rw [← hK] at D
  exact e_lam (k := k - 2) hK hM hg (by rw [hM, hK]; exact T.gx) D Sg hNg (visB_ok hva) hbg (fun cdv => by rw [hK]; exact hK ▸ hG cdv) T.word TB hcode hmT hu (hr.mono (by omega)) (LamX.lamS_by hL) hdef hbind (fun A outer s H E f c' hr' => hbody A outer s H E f c' hr') hdb hd hcd
end
theorem tkL {X : Cx} {A : Around} {outer : List PySem.Env} {s : Shared} {H : Hp} {E : XK} {scope : Scope} {f c' : Addr} : Takes (LamX.lamCx X A outer s H E scope f c') (WEx E) := takes_of rfl rfl rfl rfl
end Dx

set_option Elab.async false
set_option linter.all false
set_option maxRecDepth 100000
set_option maxHeartbeats 4000000
/-! DX, part 13: plain values; loops and comprehensions by what a turn does. -/
namespace Dx
open PySem PySem.Spec PyProof.Rows L2

mutual
/-- values of moderate size: numbers below 2^4000, at most l items -/
def okD (l : Nat) : D → Bool
  | .int i => decide (i.natAbs < 2 ^ 4000)
  | .non | .bl _ => true
  | .str x => PyData.canLay0 (.str x)
  | .tup ds | .lst ds => decide (ds.length ≤ l) && okDs l ds
  | _ => false
def okDs (l : Nat) : List D → Bool
  | [] => true
  | d :: ds => okD l d && okDs l ds
end
theorem okDs_iff {l : Nat} : ∀ {ds : List D}, okDs l ds = true ↔ ∀ d ∈ ds, okD l d = true
  | [] => by simp [okDs]
  | d :: ds => by simp [okDs, okDs_iff (ds := ds)]
theorem okD_tup {l : Nat} {ds : List D} : okD l (.tup ds) = true ↔ ds.length ≤ l ∧ ∀ d ∈ ds, okD l d = true := by simp [okD, okDs_iff]
theorem okD_lst {l : Nat} {ds : List D} : okD l (.lst ds) = true ↔ ds.length ≤ l ∧ ∀ d ∈ ds, okD l d = true := by simp [okD, okDs_iff]
theorem okD_int {l : Nat} {i : Int} : okD l (.int i) = true ↔ i.natAbs < 2 ^ 4000 := by simp [okD]
mutual
theorem okD_dat {l : Nat} : ∀ {d : D}, okD l d = true → datD d = true
  | .int i, h => rfl
  | .non, h => rfl
  | .bl _, h => rfl
  | .str x, h => by simpa [okD, datD] using h
  | .tup ds, h => by
    have h : (decide (ds.length ≤ l) && okDs l ds) = true := by simpa [okD] using h
    simp only [Bool.and_eq_true] at h
    have := okDs_dat h.2
    simpa [datD] using this
  | .lst ds, h => by
    have h : (decide (ds.length ≤ l) && okDs l ds) = true := by simpa [okD] using h
    simp only [Bool.and_eq_true] at h
    have := okDs_dat h.2
    simpa [datD] using this
  | .obj _, h => by simp [okD] at h
  | .ty _, h => by simp [okD] at h
  | .gl _, h => by simp [okD] at h
  | .exv _, h => by simp [okD] at h
theorem okDs_dat {l : Nat} : ∀ {ds : List D}, okDs l ds = true → datDs ds = true
  | [], h => rfl
  | d :: ds, h => by
    have h : (okD l d && okDs l ds) = true := by simpa [okDs] using h
    simp only [Bool.and_eq_true] at h
    have h1 := okD_dat h.1
    have h2 := okDs_dat h.2
    simp [datDs, h1, h2]
end
mutual
theorem okD_mono {l l' : Nat} (hl : l ≤ l') : ∀ {d : D}, okD l d = true → okD l' d = true
  | .int i, h => by simpa [okD] using h
  | .non, h => rfl
  | .bl _, h => rfl
  | .str x, h => by simpa [okD] using h
  | .tup ds, h => by
    have h : (decide (ds.length ≤ l) && okDs l ds) = true := by simpa [okD] using h
    simp only [Bool.and_eq_true, decide_eq_true_eq] at h
    have := okDs_mono hl h.2
    simp only [okD, this, Bool.and_true, decide_eq_true_eq]; omega
  | .lst ds, h => by
    have h : (decide (ds.length ≤ l) && okDs l ds) = true := by simpa [okD] using h
    simp only [Bool.and_eq_true, decide_eq_true_eq] at h
    have := okDs_mono hl h.2
    simp only [okD, this, Bool.and_true, decide_eq_true_eq]; omega
  | .obj _, h => by simp [okD] at h
  | .ty _, h => by simp [okD] at h
  | .gl _, h => by simp [okD] at h
  | .exv _, h => by simp [okD] at h
theorem okDs_mono {l l' : Nat} (hl : l ≤ l') : ∀ {ds : List D}, okDs l ds = true → okDs l' ds = true
  | [], h => rfl
  | d :: ds, h => by
    have h : (okD l d && okDs l ds) = true := by simpa [okDs] using h
    simp only [Bool.and_eq_true] at h
    have h1 := okD_mono hl h.1
    have h2 := okDs_mono hl h.2
    simp [okDs, h1, h2]
end
theorem okD_get {l : Nat} {d : D} (S : Store) (h : okD l d = true) : getS S d = d := by
  cases d <;> first | rfl | simp [okD] at h
theorem dat_get {d : D} (S : Store) (h : datD d = true) : getS S d = d := by
  cases d <;> first | rfl | simp [datD] at h
theorem depDs_le {n : Nat} : ∀ {ds : List D}, depDs ds ≤ n ↔ ∀ d ∈ ds, depD d ≤ n
  | [] => by simp [depDs]
  | d :: ds => by simp [depDs, depDs_le (ds := ds), Nat.max_le]
theorem depD_tup {n : Nat} {ds : List D} : depD (.tup ds) ≤ n + 1 ↔ ∀ d ∈ ds, depD d ≤ n := by simp [depD, depDs_le]
theorem depD_lst {n : Nat} {ds : List D} : depD (.lst ds) ≤ n + 1 ↔ ∀ d ∈ ds, depD d ≤ n := by simp [depD, depDs_le]
theorem depD_mem {n : Nat} {ds : List D} {d : D} (h : depD (.tup ds) ≤ n) (hd : d ∈ ds) : depD d + 1 ≤ n := by
  cases n with
  | zero => simp [depD] at h
  | succ n => have := depD_tup.mp h d hd; omega
theorem eqO_of {x y : D} {S : Store} (hx : datD x = true) (hy : datD y = true) (dx : depD x ≤ 64) (dy : depD y ≤ 64) : eqO x y S = some (.bl (eqD x y)) := by
  unfold eqO cmpOk
  rw [dat_get S hx, dat_get S hy, hx, hy, decide_eq_true dx, decide_eq_true dy]
  rfl
theorem neO_of {x y : D} {S : Store} (hx : datD x = true) (hy : datD y = true) (dx : depD x ≤ 64) (dy : depD y ≤ 64) : neO x y S = some (.bl (!eqD x y)) := by
  unfold neO cmpOk
  rw [dat_get S hx, dat_get S hy, hx, hy, decide_eq_true dx, decide_eq_true dy]
  rfl
/-- == of two values -/
theorem eqG_of {x y : D} {τ : Env} {S : Store} {Q : D → Store → Prop} {E : QX} (hx : datD x = true) (hy : datD y = true) (dx : depD x ≤ 64) (dy : depD y ≤ 64) (q : Q (.bl (eqD x y)) S) : eqG x y τ S Q E := by
  unfold eqG optF
  rw [eqO_of hx hy dx dy]
  exact q
theorem neG_of {x y : D} {τ : Env} {S : Store} {Q : D → Store → Prop} {E : QX} (hx : datD x = true) (hy : datD y = true) (dx : depD x ≤ 64) (dy : depD y ≤ 64) (q : Q (.bl (!eqD x y)) S) : neG x y τ S Q E := by
  unfold neG optF
  rw [neO_of hx hy dx dy]
  exact q

/-! ### the cup: a list of the store with two numbers -/
def Cup (n : Nat) (S : Store) : Prop := ∃ a b : Int, S[n]? = some (.lst [.int a, .int b])
/-- the cup may be another, all else is as it was -/
structure CupR (n : Nat) (S S' : Store) : Prop where
  cup : Cup n S'
  len : S'.length = S.length
  same : ∀ i, i ≠ n → S'[i]? = S[i]?
theorem CupR.refl {n : Nat} {S : Store} (h : Cup n S) : CupR n S S := ⟨h, rfl, fun _ _ => rfl⟩
theorem CupR.trans {n : Nat} {S S1 S2 : Store} (a : CupR n S S1) (b : CupR n S1 S2) : CupR n S S2 := ⟨b.cup, b.len.trans a.len, fun i h => (b.same i h).trans (a.same i h)⟩
theorem CupR.set {n : Nat} {S : Store} {a b : Int} (h : Cup n S) : CupR n S (S.set n (.lst [.int a, .int b])) := by
  obtain ⟨a', b', h⟩ := h
  have hl : n < S.length := (List.getElem?_eq_some_iff.mp h).1
  exact ⟨⟨a, b, by rw [List.getElem?_set_self hl]⟩, by simp, fun i hi => List.getElem?_set_ne (fun e => hi e.symm)⟩

/-! ### loops -/
theorem forL_inv {t : Tg} {body : FS} {chk : Store → Prop} {E : DEnds} (I : Nat → Env → Store → Prop) : ∀ (ds : List D) (i : Nat) {τ : Env} {S : Store}, I i τ S →
    (∀ (j : Nat) (d : D), ds[j]? = some d → ∀ (τ : Env) (S : Store) (K : Env → Store → Prop), I (i + j) τ S → (∀ τ' S', I (i + j + 1) τ' S' → K τ' S') → chk S ∧ ∃ τ', bindT t d τ = some τ' ∧ body { E with nx := K, ct := K, bk := E.nx } τ' S) →
    (∀ τ S, I (i + ds.length) τ S → chk S ∧ E.nx τ S) → forL t body chk ds E τ S
  | [], i, τ, S, h0, _, he => he τ S (by simpa using h0)
  | d :: ds, i, τ, S, h0, ht, he => by
    obtain ⟨h1, τ', h2, h3⟩ := ht 0 d rfl τ S (fun τ'' S'' => forL t body chk ds E τ'' S'') (by simpa using h0) (fun τ' S' h => forL_inv I ds (i + 1) (by simpa using h)
      (fun j d hj τ S K hI hK => ht (j + 1) d (by simpa using hj) τ S K (by rw [show i + (j + 1) = i + 1 + j by omega]; exact hI) (fun τ' S' h => hK τ' S' (by rw [show i + 1 + j + 1 = i + (j + 1) + 1 by omega]; exact h)))
      (fun τ S h => he τ S (by rw [show i + (d :: ds).length = i + 1 + ds.length by simp; omega]; exact h)))
    unfold forL
    refine ⟨h1, ?_⟩
    rw [h2]
    exact h3
/-- a comprehension whose turns change nothing -/
theorem compL_pure {t : Tg} {ft : FG Bool} {fe : F} {chk : Store → Prop} {τ : Env} {S : Store} (p : D → Bool) (f : D → D) : ∀ (ds acc : List D) {Q : List D → Store → Prop},
    (∀ d ∈ ds, ∃ τ', bindT t d τ = some τ' ∧ (∀ Q : Bool → Store → Prop, Q (p d) S → ft τ' S Q noX) ∧ (p d = true → ∀ Q : D → Store → Prop, Q (f d) S → fe τ' S Q noX)) →
    chk S → acc.length + ds.length ≤ sizeLine → Q (acc ++ (ds.filter p).map f) S → compL t ft fe chk τ ds acc S Q
  | [], acc, Q, _, hc, _, hq => by
    unfold compL
    exact ⟨hc, by simpa using hq⟩
  | d :: ds, acc, Q, h, hc, hl, hq => by
    obtain ⟨τ', h1, h2, h3⟩ := h d List.mem_cons_self
    unfold compL
    refine ⟨hc, ?_⟩
    rw [h1]
    simp only [List.length_cons] at hl
    refine h2 _ ?_
    by_cases hp : p d = true
    · rw [if_pos hp]
      refine h3 hp _ ⟨by omega, compL_pure p f ds (acc ++ [f d]) (fun d hd => h d (List.mem_cons_of_mem _ hd)) hc (by simp; omega) ?_⟩
      have e : List.filter p (d :: ds) = d :: List.filter p ds := by simp [hp]
      rw [e] at hq
      simpa using hq
    · rw [if_neg hp]
      refine compL_pure p f ds acc (fun d hd => h d (List.mem_cons_of_mem _ hd)) hc (by omega) ?_
      have e : List.filter p (d :: ds) = List.filter p ds := by simp [hp]
      rw [e] at hq
      exact hq
/-- a comprehension over a value -/
theorem compF_val {fi : FG Its'} {t : Tg} {ft : FG Bool} {fe : F} {vs : List Nat} {τ : Env} {S : Store} {Q : D → Store → Prop} {E : QX} (ds : List D) (chk : Store → Prop) (p : D → Bool) (f : D → D)
    (hi : ∀ (Q : Its' → Store → Prop), Q (ds, chk) S → fi τ S Q E) (hc : chk S) (hl : ds.length ≤ sizeLine)
    (h : ∀ d ∈ ds, ∃ τ', bindT t d (wipeE τ vs) = some τ' ∧ (∀ Q : Bool → Store → Prop, Q (p d) S → ft τ' S Q noX) ∧ (p d = true → ∀ Q : D → Store → Prop, Q (f d) S → fe τ' S Q noX))
    (hq : Q (.lst ((ds.filter p).map f)) S) : compF false fi t ft fe vs τ S Q E := by
  unfold compF
  refine hi _ (compL_pure p f ds [] h hc (by simpa using hl) ?_)
  unfold newL
  rw [if_neg Bool.false_ne_true]
  simpa using hq
theorem eqG_ii {a b : Int} {τ : Env} {S : Store} {Q : D → Store → Prop} {E : QX} : eqG (.int a) (.int b) τ S Q E = Q (.bl (decide (a = b))) S := by
  unfold eqG optF
  rw [eqO_of rfl rfl (by simp [depD]) (by simp [depD])]
  simp only [eqD]
  congr 2
theorem neG_ii {a b : Int} {τ : Env} {S : Store} {Q : D → Store → Prop} {E : QX} : neG (.int a) (.int b) τ S Q E = Q (.bl (!decide (a = b))) S := by
  unfold neG optF
  rw [neO_of rfl rfl (by simp [depD]) (by simp [depD])]
  simp only [eqD]
  congr 3
theorem neG_bb {a b : Bool} {τ : Env} {S : Store} {Q : D → Store → Prop} {E : QX} : neG (.bl a) (.bl b) τ S Q E = Q (.bl (!(a == b))) S := by
  unfold neG optF
  rw [neO_of rfl rfl (by simp [depD]) (by simp [depD])]
  simp only [eqD]
end Dx

set_option Elab.async false
set_option linter.all false
set_option maxRecDepth 100000
set_option maxHeartbeats 4000000
/-! DX, part 12b: a list's append; the module's tuples. -/
namespace Dx
open PySem PySem.Spec PyProof.Rows L2
def appF (o y : D) : F := fun _ S Q _ => match o with
  | .obj n => (match S[n]? with
    | some (.lst ds) => ds.length < sizeLine ∧ Q .non (S.set n (.lst (ds ++ [y])))
    | _ => False)
  | _ => False
def isLo (o : D) : FG Unit := fun _ S Q _ => match o with
  | .obj n => (match S[n]? with
    | some (.lst _) => Q () S
    | _ => False)
  | _ => False
abbrev appE (fo fy : F) : F := bindF fo fun o => bindF (isLo o) fun _ => bindF fy fun y => appF o y
section
variable {G : Gr} {X : Cx} {W : WX} {o e : Expr} {apos cpos : Pos} {fo fy : F}
theorem xapp (ho : PE X o (tE G W fo)) (ha : PE X e (tE G W fy)) (hbase : attributeBase o "append" X.env (eval o X.env) = eval o X.env := by kernel_rfl)
    (hfew : ((backTo cpos (starEach (e :: []) X.env)).all (fun x => !x.1) && (backToKw cpos (keywordEach [] X.env)).all (fun x => x.1.isSome) && decide ((e :: []).length + ([] : List Keyword).length + (if ([] : List Keyword).isEmpty then 0 else 1) < 30)) = true := by kernel_rfl)
    (hline : (apos.endLine == cpos.line) = true := by kernel_rfl) (hs : starEach (e :: []) X.env = (false, eval e X.env) :: starEach [] X.env := by kernel_rfl) (hplain : (backTo cpos (starEach [] X.env)).any (·.1) = false := by kernel_rfl) :
    PE X (.Call (.Attribute o "append" apos) [e] [] cpos) (tE G W (appE fo fy)) := by
  have ha2 : PA X [e] (tA G W (consF fy nilF)) := a_cons ha a_nil hs
  refine PE.imp (pe_bm PySem.F.plainAttrs_list PySem.F.slot_list_append PySem.F.type_list_append mt_append ho ha2 hbase hfew hline hs hplain) fun σ H Q ⟨τ, m, S, h⟩ => ?_
  refine ⟨τ, m, S, h.seq fun m1 S1 H1 v d e1 sr1 r1 h1 => ?_⟩
  obtain ⟨QD, QE, sr, er, hf, k, px⟩ := h1
  unfold bindF isLo at hf
  split at hf
  · rename_i n
    split at hf
    · rename_i ds hs
      obtain ⟨a, xs, rfl, hm, hH, rx⟩ := live_of sr r1 hs
      refine ⟨.inl ⟨rfl, xs, .inl (.inl hH)⟩, τ, m1, S1, fun ds' S' => (match ds' with | [y] => appF (.obj n) y τ S' QD QE | _ => False), QE, sr, er, hf, fun m2 S2 H2 vs ds' e2 sr2 r2 q2 => ?_, px⟩
      cases r2 with
      | nil => exact q2.elim
      | cons rv rr =>
        rename_i v vs y ys
        cases rr with
        | cons _ _ => exact q2.elim
        | nil =>
          have q2 : appF (.obj n) y τ S2 QD QE := q2
          cases hS : S2[n]? with
          | none => simp [appF, hS] at q2
          | some ob =>
            cases ob with
            | lst ds2 =>
              simp only [appF, hS] at q2
              obtain ⟨a2, xs2, ea, hm2, hH2, rx2⟩ := live_of sr2 (r1.mono sr1 e2) hS
              cases ea
              exact ⟨a, xs2, v, rfl, rfl, hH2, by rw [rx2.length]; exact q2.1, k m2 _ _ .non .non (e2.trans (Ext.write sr2 hm2)) (sr2.write hm2 (rx2.append (.cons rv .nil))) .non q2.2⟩
            | dead => simp [appF, hS] at q2
            | dct _ => simp [appF, hS] at q2
    · exact hf.elim
  · exact hf.elim
end

/-- a tuple of the module -/
abbrev tup! (ds : List D) : F := retF (.tup ds)
def flatV : D → Option V
  | .int i => some (.int i)
  | .str x => some (.str x)
  | .bl b => some (.bl b)
  | .non => some .non
  | _ => none
def FlatAll : List D → List V → Prop
  | [], [] => True
  | d :: ds, v :: vs => flatV d = some v ∧ FlatAll ds vs
  | _, _ => False
theorem flat_rep {G : Gr} {m : Mp} {H : Hp} : ∀ {ds : List D} {vs : List V}, FlatAll ds vs → RepAll G m H vs ds
  | [], [], _ => .nil
  | [], _ :: _, h => h.elim
  | _ :: _, [], h => h.elim
  | d :: ds, v :: vs, ⟨h1, h2⟩ => .cons (by cases d <;> simp [flatV] at h1 <;> subst h1 <;> constructor) (flat_rep h2)
structure TupK (G : Gr) (x : Str) (ds : List D) : Prop where
  ex : ∃ (a : Addr) (vs : List V), G.mg x = some (.ref a) ∧ (∀ H : Hp, SqT G.K H a vs) ∧ FlatAll ds vs
theorem xtupK {G : Gr} {X : Cx} {W : WX} {x : Str} {pos : Pos} {ds : List D} (T : TupK G x ds) (hM : X.mg = G.mg := by rfl) (hg : Gl X x := by unfold Gl; kernel_rfl) (hd : (x == ("__debug__" : Str)) = false := by kernel_rfl) : PE X (.Name x pos) (tE G W (tup! ds)) := by
  obtain ⟨a, vs, h1, h2, h3⟩ := T.ex
  exact e_const (v := .ref a) (pe_glob hg (by rw [hM]; exact h1) rfl hd) fun m H => .tup (h2 H) (flat_rep h3)
end Dx

set_option Elab.async false
set_option linter.all false
set_option maxRecDepth 100000
set_option maxHeartbeats 4000000
/-! DX: zip of two values. -/
namespace Dx
open PySem PySem.Spec PyProof.Rows L2
def zipD (xs ys : List D) : List D := List.zipWith (fun a b => .tup [a, b]) xs ys
theorem zipD_get {xs ys : List D} {i : Nat} {d : D} (h : (zipD xs ys)[i]? = some d) : ∃ a b, xs[i]? = some a ∧ ys[i]? = some b ∧ d = .tup [a, b] := by
  unfold zipD at h
  rw [List.getElem?_zipWith] at h
  cases h1 : xs[i]? with
  | none => rw [h1] at h; cases h
  | some a =>
    cases h2 : ys[i]? with
    | none => rw [h1, h2] at h; cases h
    | some b => rw [h1, h2] at h; cases h; exact ⟨a, b, rfl, rfl, rfl⟩
theorem zipD_stop {xs ys : List D} {i : Nat} (h : (zipD xs ys).length ≤ i) : xs.length ≤ i ∨ ys.length ≤ i := by
  unfold zipD at h
  rw [List.length_zipWith] at h
  omega
/-- the two values that zip walks -/
def zipI (ds : List D) : FG Its' := fun _ S Q _ => match ds with
  | [x, y] => (match getS S x, getS S y with
    | .tup xs, .tup ys => Q (zipD xs ys, fun _ => True) S
    | .lst xs, .lst ys => Q (zipD xs ys, fun S' => getS S' x = .lst xs ∧ getS S' y = .lst ys) S
    | _, _ => False)
  | _ => False
/-- a new pair is laid -/
theorem new_pair {G : Gr} {m : Mp} {S : Store} {H : Hp} {T : Addr} {v w : V} {a b : D} (sr : SR G m S H) (hT : H T = none) (rv : Rep G m H v a) (rw_ : Rep G m H w b) :
    Ext m H m (upd H T (.tup [v, w])) ∧ SR G m S (upd H T (.tup [v, w])) ∧ Rep G m (upd H T (.tup [v, w])) (.ref T) (.tup [a, b]) :=
  have e : Ext m H m (upd H T (.tup [v, w])) := Ext.upd sr hT
  ⟨e, sr.upd hT, .tup (.inl (.inl upd_same)) (.cons (rv.mono sr e) (.cons (rw_.mono sr e) .nil))⟩
theorem jok_zipT {G : Gr} {a b : Addr} {ds es : List D} : JOk G (RZ.ItzT G.K a b) (zipD ds es) (fun _ => True) (fun m _ H => (∃ xs, SqT G.K H a xs ∧ RepAll G m H xs ds) ∧ ∃ ys, SqT G.K H b ys ∧ RepAll G m H ys es) where
  mono := fun m S H m' S' H' sr sr' e ⟨⟨xs, h, r⟩, ys, h2, r2⟩ => ⟨⟨xs, by
    rcases h with h | h
    · exact .inl (e.rd h (sr.notTup h) (fun ps z => by cases z)).1
    · exact .inr h, r.mono0 sr e⟩, ys, by
    rcases h2 with h | h
    · exact .inl (e.rd h (sr.notTup h) (fun ps z => by cases z)).1
    · exact .inr h, r2.mono0 sr e⟩
  go := fun i d m S H sr ⟨⟨xs, h, r⟩, ys, h2, r2⟩ _ hd => by
    obtain ⟨p, q, e1, e2, rfl⟩ := zipD_get hd
    obtain ⟨v, hv, rv⟩ := r.get e1
    obtain ⟨w, hw, rw_⟩ := r2.get e2
    refine ⟨⟨xs, ys, v, w, h, h2, hv, hw⟩, fun u H' ⟨T, x, y, e, hT, eH, k1, k2⟩ => ?_⟩
    have z1 := k1 xs h
    have z2 := k2 ys h2
    rw [hv] at z1; cases z1
    rw [hw] at z2; cases z2
    subst e eH
    exact new_pair sr hT rv rw_
  stop := fun i m S H sr ⟨⟨xs, h, r⟩, ys, h2, r2⟩ _ hi => ⟨xs, ys, h, h2, by
    rw [r.length, r2.length]
    exact zipD_stop hi⟩
theorem jok_zipL {G : Gr} {a b : Addr} {x y : D} {ds es : List D} : JOk G (Itz G.K a b) (zipD ds es) (fun S' => getS S' x = .lst ds ∧ getS S' y = .lst es) (fun m S H => Rep G m H (.ref a) x ∧ Rep G m H (.ref b) y) where
  mono := fun m S H m' S' H' sr sr' e ⟨r, r2⟩ => ⟨r.mono0 sr e, r2.mono0 sr e⟩
  go := fun i d m S H sr ⟨r, r2⟩ ⟨c, c2⟩ hd => by
    obtain ⟨p, q, e1, e2, rfl⟩ := zipD_get hd
    obtain ⟨a', xs, e, h, ra⟩ := r.getL sr c
    cases e
    obtain ⟨b', ys, e', h2, ra2⟩ := r2.getL sr c2
    cases e'
    obtain ⟨v, hv, rv⟩ := ra.get e1
    obtain ⟨w, hw, rw_⟩ := ra2.get e2
    refine ⟨⟨xs, ys, v, w, h.sq, h2.sq, hv, hw⟩, fun u H' ⟨T, x, y, e, hT, eH, k1, k2⟩ => ?_⟩
    have z1 := k1 xs h.sq
    have z2 := k2 ys h2.sq
    rw [hv] at z1; cases z1
    rw [hw] at z2; cases z2
    subst e eH
    exact new_pair sr hT rv rw_
  stop := fun i m S H sr ⟨r, r2⟩ ⟨c, c2⟩ hi => by
    obtain ⟨a', xs, e, h, ra⟩ := r.getL sr c
    cases e
    obtain ⟨b', ys, e', h2, ra2⟩ := r2.getL sr c2
    cases e'
    exact ⟨xs, ys, h.sq, h2.sq, by rw [ra.length, ra2.length]; exact zipD_stop hi⟩
theorem i_zip {G : Gr} {X : Cx} {W : WX} {e e2 : Expr} {fa : FG (List D)} {p pos tpos : Pos} {elts : List Expr} {kk : Nat} (hK : X.K = G.K) (hg : Gl X "zip") (hm : X.mg "zip" = none) (ha : PA X [e, e2] (tA G W fa))
    (hs : starEach [e, e2] X.env = (false, eval e X.env) :: starEach [e2] X.env) (hpl : (backTo pos (starEach [e2] X.env)).any (·.1) = false) :
    PI X (.Tuple elts kk tpos) (.Call (.Name "zip" p) [e, e2] [] pos) (tI G W (bindF fa zipI)) :=
  PI.imp (RZ.pi_zipA hg hm ha hs hpl) fun σ H R ⟨τ, m, S, h⟩ => ⟨τ, m, S, h.seq fun m1 S1 H1 vs ds e1 sr1 r1 h1 => by
    obtain ⟨QD, QE, sr, er, hf, k, px⟩ := h1
    rw [hK]
    unfold zipI at hf
    split at hf
    · rename_i x y
      cases r1 with
      | cons ra rr =>
        cases rr with
        | cons rb rr =>
          cases rr
          split at hf
          · rename_i xs ys q1 q2
            cases getS_tup q1
            cases getS_tup q2
            obtain ⟨a, vs, rfl, t1, ra1⟩ := ra.getT rfl
            obtain ⟨b, ws, rfl, t2, ra2⟩ := rb.getT rfl
            exact ⟨a, b, vs, ws, rfl, .inr ⟨t1, t2, k m1 S1 H1 _ _ (Ext.refl _ _) sr ⟨_, jok_zipT, fun S _ => ⟨⟨vs, t1, ra1⟩, ws, t2, ra2⟩⟩ hf⟩⟩
          · rename_i xs ys q1 q2
            obtain ⟨a, vs, rfl, t1, ra1⟩ := ra.getL sr q1
            obtain ⟨b, ws, rfl, t2, ra2⟩ := rb.getL sr q2
            exact ⟨a, b, vs, ws, rfl, .inl ⟨t1.sq, t2.sq, k m1 S1 H1 _ _ (Ext.refl _ _) sr ⟨_, jok_zipL, fun S _ => ⟨ra, rb⟩⟩ hf⟩⟩
          · exact hf.elim
    · exact hf.elim⟩
end Dx

set_option Elab.async false
set_option linter.all false
set_option maxRecDepth 100000
set_option maxHeartbeats 4000000
/-! DX: the order of ints and of tuples; sorted. -/
namespace Dx
open PySem PySem.Spec PyProof.Rows L2
mutual
/-- less: of ints, of tuples of such -/
def ltD : D → D → Bool
  | .int i, .int j => decide (i < j)
  | .tup xs, .tup ys => ltDs xs ys
  | _, _ => false
def ltDs : List D → List D → Bool
  | [], [] => false
  | [], _ :: _ => true
  | _ :: _, [] => false
  | x :: xs, y :: ys => if eqD x y = true then ltDs xs ys else ltD x y
end
mutual
/-- that can be compared -/
def cmpD : D → D → Bool
  | .int _, .int _ => true
  | .tup xs, .tup ys => cmpDs xs ys
  | _, _ => false
def cmpDs : List D → List D → Bool
  | x :: xs, y :: ys => (eqD x y || cmpD x y) && cmpDs xs ys
  | _, _ => true
end
theorem ltDs_at : ∀ (xs ys : List D) (i k : Nat) (e r : Nat → Bool), k = min xs.length ys.length → (∀ j (h1 : j < xs.length) (h2 : j < ys.length), e (i + j) = eqD xs[j] ys[j]) → (∀ j (h1 : j < xs.length) (h2 : j < ys.length), r (i + j) = ltD xs[j] ys[j]) →
    Ob.lexAt e r (decide (xs.length < ys.length)) i k = ltDs xs ys
  | [], [], i, k, e, r, hk, _, _ => by
    have : k = 0 := by simpa using hk
    subst this
    simp [Ob.lexAt, ltDs]
  | [], y :: ys, i, k, e, r, hk, _, _ => by
    have : k = 0 := by simpa using hk
    subst this
    simp [Ob.lexAt, ltDs]
  | x :: xs, [], i, k, e, r, hk, _, _ => by
    have : k = 0 := by simpa using hk
    subst this
    simp [Ob.lexAt, ltDs]
  | x :: xs, y :: ys, i, k, e, r, hk, he, hr => by
    obtain ⟨k, rfl⟩ : ∃ k', k = k' + 1 := ⟨min xs.length ys.length, by simp only [List.length_cons] at hk; omega⟩
    have hk' : k = min xs.length ys.length := by simp only [List.length_cons] at hk; omega
    have e0 := he 0 (by simp) (by simp)
    have r0 := hr 0 (by simp) (by simp)
    simp only [Nat.add_zero, List.getElem_cons_zero] at e0 r0
    rw [Ob.lexAt_succ, e0, r0]
    have ih := ltDs_at xs ys (i + 1) k e r hk' (fun j h1 h2 => by
      have := he (j + 1) (by simpa using h1) (by simpa using h2)
      rw [show i + 1 + j = i + (j + 1) by omega]
      simpa using this) (fun j h1 h2 => by
      have := hr (j + 1) (by simpa using h1) (by simpa using h2)
      rw [show i + 1 + j = i + (j + 1) by omega]
      simpa using this)
    have el : decide ((x :: xs).length < (y :: ys).length) = decide (xs.length < ys.length) := by
      simp
    rw [el, ih]
    rfl
section
variable {G : Gr} {X : Cx} {pins : List (Addr × Obj)} {σ : L2.St} {H : Hp} {s : Shared} {m : Mp}
theorem getElem_of {α : Type} {l : List α} {j : Nat} {x : α} (h : j < l.length) (e : l[j]? = some x) : l[j] = x := by
  rw [List.getElem?_eq_getElem h] at e; exact Option.some.inj e
/-- equality by values, seen at A -/
theorem eq_at (I : Inv X pins σ H s) (hK : X.K = G.K) {A : Around} {x y : D} {v w : V} {a b : Value} (rx : Rep G m H v x) (ry : Rep G m H w y) (ra : RelV v a) (rb : RelV w b) (cx : cmpOk x = true) (cy : cmpOk y = true) (hu : A.in1.units + 64 < cLine) :
    SeqAt.EqAt A.in1 s a b (eqD x y) := by
  obtain ⟨p, p1, p2⟩ := cmpOk_py cx
  obtain ⟨q, q1, q2⟩ := cmpOk_py cy
  obtain ⟨as, r1⟩ := Dp.reads I p v a (hK ▸ rx.dp p1) ra
  obtain ⟨bs, r2⟩ := Dp.reads I q w b (hK ▸ ry.dp q1) rb
  rw [← eqv_eqD x y p q p1 q1]
  exact PySem.W.keq_at r1 r2 p2 q2 hu
theorem cmpOk_item {xs : List D} {j : Nat} (h : cmpOk (.tup xs) = true) (hj : j < xs.length) : cmpOk xs[j] = true := by
  unfold cmpOk at h ⊢
  simp only [Bool.and_eq_true, decide_eq_true_eq, datD, depD] at h ⊢
  have z : ∀ (l : List D) (j : Nat) (hj : j < l.length) (k : Nat), datDs l = true → depDs l ≤ k → datD l[j] = true ∧ depD l[j] ≤ k := by
    intro l
    induction l with
    | nil => intro j hj; exact absurd hj (by simp)
    | cons x l ih =>
      intro j hj k h1 h2
      simp only [datDs, depDs, Bool.and_eq_true] at h1 h2
      cases j with
      | zero => exact ⟨h1.1, by simp; omega⟩
      | succ j => exact ih j (by simpa using hj) k h1.2 (by omega)
  obtain ⟨h1, h2⟩ := h
  have h2 : depDs xs + 1 ≤ 64 := of_decide_eq_true h2
  obtain ⟨a, b⟩ := z xs j hj 64 h1 (by omega)
  exact ⟨a, b⟩
theorem cmpDs_at : ∀ {xs ys : List D} {j : Nat} (h1 : j < xs.length) (h2 : j < ys.length), cmpDs xs ys = true → eqD xs[j] ys[j] = false → cmpD xs[j] ys[j] = true
  | x :: xs, y :: ys, 0, _, _, h, e => by
    simp only [cmpDs, Bool.and_eq_true, Bool.or_eq_true] at h
    simp only [List.getElem_cons_zero] at e ⊢
    rcases h.1 with z | z
    · rw [e] at z; cases z
    · exact z
  | x :: xs, y :: ys, j + 1, h1, h2, h, e => by
    simp only [cmpDs, Bool.and_eq_true] at h
    simp only [List.getElem_cons_succ] at e ⊢
    exact cmpDs_at (by simpa using h1) (by simpa using h2) h.2 e
theorem rc_lt (I : Inv X pins σ H s) (hK : X.K = G.K) : ∀ (n : Nat) (A : Around) (x y : D) (v w : V) (a b : Value), depD x ≤ n → Rep G m H v x → Rep G m H w y → RelV v a → RelV w b → cmpOk x = true → cmpOk y = true → cmpD x y = true → A.units + 65 + n < cLine →
    Ob.RcOp .Lt A s a b (ltD x y)
  | n, A, .int i, .int j, v, w, a, b, hn, rx, ry, ra, rb, cx, cy, c, hu => by
    cases rx
    cases ry
    obtain ⟨t, rfl⟩ := ra
    obtain ⟨u, rfl⟩ := rb
    exact Ob.RcOp.lt_int i j t u
  | 0, A, .tup xs, .tup ys, v, w, a, b, hn, rx, ry, ra, rb, cx, cy, c, hu => by
    simp [depD] at hn
  | n + 1, A, .tup xs, .tup ys, v, w, a, b, hn, rx, ry, ra, rb, cx, cy, c, hu => by
    obtain ⟨a', vs, rfl, t1, r1⟩ := rx.getT rfl
    obtain ⟨b', ws, rfl, t2, r2⟩ := ry.getT rfl
    cases ra
    cases rb
    obtain ⟨its, q1, p1, _⟩ := I.tuple (hK ▸ t1)
    obtain ⟨its2, q2, p2, _⟩ := I.tuple (hK ▸ t2)
    have l1 : its.toArray.size = xs.length := by rw [List.size_toArray, ← q1.length, r1.length]
    have l2 : its2.toArray.size = ys.length := by rw [List.size_toArray, ← q2.length, r2.length]
    have hun : A.in1.units = A.units + 1 := Around.in1_units A
    have R := Ob.RcOp.tuples_lt (A := A) (s := s) (e := fun j => if h : j < xs.length ∧ j < ys.length then eqD (xs[j]'h.1) (ys[j]'h.2) else true) (r := fun j => if h : j < xs.length ∧ j < ys.length then ltD (xs[j]'h.1) (ys[j]'h.2) else true) p1 p2 (by omega) (fun j h1 h2 => ?_) (fun j h1 h2 hf => ?_)
    · have e1 := ltDs_at xs ys 0 (min xs.length ys.length) (fun j => if h : j < xs.length ∧ j < ys.length then eqD (xs[j]'h.1) (ys[j]'h.2) else true) (fun j => if h : j < xs.length ∧ j < ys.length then ltD (xs[j]'h.1) (ys[j]'h.2) else true) rfl
        (fun j h1 h2 => by simp [h1, h2]) (fun j h1 h2 => by simp [h1, h2])
      rw [l1, l2, e1] at R
      exact R
    all_goals
      have j1 : j < xs.length := by rw [← l1]; exact h1
      have j2 : j < ys.length := by rw [← l2]; exact h2
      obtain ⟨v1, e1, rv1⟩ := r1.get (List.getElem?_eq_getElem j1)
      obtain ⟨w1, e2, rw1⟩ := r2.get (List.getElem?_eq_getElem j2)
      obtain ⟨a1, e3, ra1⟩ := q1.get e1
      obtain ⟨b1, e4, rb1⟩ := q2.get e2
      have g1 : its.toArray[j] = a1 := by
        have := getElem_of (by simpa using h1) e3
        simpa using this
      have g2 : its2.toArray[j] = b1 := by
        have := getElem_of (by simpa using h2) e4
        simpa using this
      rw [g1, g2]
      simp only [j1, j2, and_self, dite_true]
    · exact eq_at I hK rv1 rw1 ra1 rb1 (cmpOk_item cx j1) (cmpOk_item cy j2) (by omega)
    · simp only [j1, j2, and_self, dite_true] at hf
      have dn : depD xs[j] ≤ n := by
        have z : ∀ (l : List D) (j : Nat) (hj : j < l.length), depD l[j] ≤ depDs l := by
          intro l
          induction l with
          | nil => intro j hj; exact absurd hj (by simp)
          | cons x l ih =>
            intro j hj
            simp only [depDs]
            cases j with
            | zero => simp; omega
            | succ j => have := ih j (by simpa using hj); simp; omega
        have := z xs j j1
        simp only [depD] at hn
        omega
      exact rc_lt I hK n A.in1 xs[j] ys[j] v1 w1 a1 b1 dn rv1 rw1 ra1 rb1 (cmpOk_item cx j1) (cmpOk_item cy j2) (cmpDs_at j1 j2 (by simpa [cmpD] using c) hf) (by omega)
  | _, _, .non, _, _, _, _, _, _, _, _, _, _, _, _, c, _ => by simp [cmpD] at c
  | _, _, .bl _, _, _, _, _, _, _, _, _, _, _, _, _, c, _ => by simp [cmpD] at c
  | _, _, .str _, _, _, _, _, _, _, _, _, _, _, _, _, c, _ => by simp [cmpD] at c
  | _, _, .lst _, _, _, _, _, _, _, _, _, _, _, _, _, c, _ => by simp [cmpD] at c
  | _, _, .obj _, _, _, _, _, _, _, _, _, _, _, _, _, c, _ => by simp [cmpD] at c
  | _, _, .ty _, _, _, _, _, _, _, _, _, _, _, _, _, c, _ => by simp [cmpD] at c
  | _, _, .gl _, _, _, _, _, _, _, _, _, _, _, _, _, c, _ => by simp [cmpD] at c
  | _, _, .exv _, _, _, _, _, _, _, _, _, _, _, _, _, c, _ => by simp [cmpD] at c
  | _, _, .int _, .non, _, _, _, _, _, _, _, _, _, _, _, c, _ => by simp [cmpD] at c
  | _, _, .int _, .bl _, _, _, _, _, _, _, _, _, _, _, _, c, _ => by simp [cmpD] at c
  | _, _, .int _, .str _, _, _, _, _, _, _, _, _, _, _, _, c, _ => by simp [cmpD] at c
  | _, _, .int _, .tup _, _, _, _, _, _, _, _, _, _, _, _, c, _ => by simp [cmpD] at c
  | _, _, .int _, .lst _, _, _, _, _, _, _, _, _, _, _, _, c, _ => by simp [cmpD] at c
  | _, _, .int _, .obj _, _, _, _, _, _, _, _, _, _, _, _, c, _ => by simp [cmpD] at c
  | _, _, .int _, .ty _, _, _, _, _, _, _, _, _, _, _, _, c, _ => by simp [cmpD] at c
  | _, _, .int _, .gl _, _, _, _, _, _, _, _, _, _, _, _, c, _ => by simp [cmpD] at c
  | _, _, .int _, .exv _, _, _, _, _, _, _, _, _, _, _, _, c, _ => by simp [cmpD] at c
  | _, _, .tup _, .non, _, _, _, _, _, _, _, _, _, _, _, c, _ => by simp [cmpD] at c
  | _, _, .tup _, .bl _, _, _, _, _, _, _, _, _, _, _, _, c, _ => by simp [cmpD] at c
  | _, _, .tup _, .str _, _, _, _, _, _, _, _, _, _, _, _, c, _ => by simp [cmpD] at c
  | _, _, .tup _, .int _, _, _, _, _, _, _, _, _, _, _, _, c, _ => by simp [cmpD] at c
  | _, _, .tup _, .lst _, _, _, _, _, _, _, _, _, _, _, _, c, _ => by simp [cmpD] at c
  | _, _, .tup _, .obj _, _, _, _, _, _, _, _, _, _, _, _, c, _ => by simp [cmpD] at c
  | _, _, .tup _, .ty _, _, _, _, _, _, _, _, _, _, _, _, c, _ => by simp [cmpD] at c
  | _, _, .tup _, .gl _, _, _, _, _, _, _, _, _, _, _, _, c, _ => by simp [cmpD] at c
  | _, _, .tup _, .exv _, _, _, _, _, _, _, _, _, _, _, _, c, _ => by simp [cmpD] at c
def lttO (x y : D) (_ : Store) : Option D := if (cmpOk x && cmpOk y && cmpD x y) = true then some (.bl (ltD x y)) else none
def lttG (x y : D) : F := optF (lttO x y)
theorem opd_ltt {n : Nat} (hK : X.K = G.K) (hu : X.A.units + 130 < cLine) : OpF G X (compareOp .Lt) lttG := by
  refine ⟨fun v w H Q => ∃ (m : Mp) (x y : D), Rep G m H v x ∧ Rep G m H w y ∧ cmpOk x = true ∧ cmpOk y = true ∧ cmpD x y = true ∧ Q (.bl (ltD x y)) H, ?_, fun W τ m S σ H Q v w x y rv rw_ hA => ?_⟩
  · intro pins s σ H v w a b Q I rx ry h
    obtain ⟨m, x, y, h1, h2, c1, c2, c3, q⟩ := h
    have hd : depD x ≤ 64 := by
      unfold cmpOk at c1
      simp only [Bool.and_eq_true, decide_eq_true_eq] at c1
      exact c1.2
    have R := rc_lt I hK 64 X.A x y v w a b hd h1 h2 rx ry c1 c2 c3 (by omega)
    have z : wpAny (model X.prog X.w) X.A (compareOp .Lt a b) (EP X pins σ Q) X.xe s := R X.prog X.w X.xe (EP X pins σ Q) ⟨.bl _, H, I, rfl, q⟩
    exact z
  · unfold lttG at hA
    obtain ⟨d, hd, k⟩ := hA.fin
    unfold lttO at hd
    split at hd
    · rename_i hc
      cases hd
      simp only [Bool.and_eq_true] at hc
      exact ⟨m, x, y, rv, rw_, hc.1.1, hc.1.2, hc.2, k m H _ (Ext.refl _ _) hA.sr (.bl _)⟩
    · cases hd
end
end Dx

set_option Elab.async false
set_option linter.all false
set_option maxRecDepth 100000
set_option maxHeartbeats 4000000
/-! DX: dicts whose keys are tuples of ints and texts. -/
namespace Dx
open PySem PySem.Spec PyProof.Rows L2
/-- the key that a tuple's items are -/
def keyOf : List D → Option (List Key)
  | [] => some []
  | .int i :: r => (keyOf r).map (.inl i :: ·)
  | .str x :: r => (keyOf r).map (.inr x :: ·)
  | _ => none
theorem keyOf_eq : ∀ {ds : List D} {k : List Key}, keyOf ds = some k → ds = k.map keyI
  | [], k, h => by cases h; rfl
  | d :: ds, k, h => by
    cases d <;> simp only [keyOf] at h <;> first | (obtain ⟨r, h1, rfl⟩ := Option.map_eq_some_iff.mp h; rw [keyOf_eq h1]; rfl) | cases h
theorem keyOf_rep {G : Gr} {m : Mp} {H : Hp} : ∀ {ds : List D} {k : List Key} {vs : List V}, keyOf ds = some k → RepAll G m H vs ds → vs = k.map kV
  | [], k, _, h, r => by cases h; cases r; rfl
  | d :: ds, k, _, h, r => by
    cases r with
    | cons a r =>
      cases d <;> simp only [keyOf] at h <;> first | (obtain ⟨q, h1, rfl⟩ := Option.map_eq_some_iff.mp h; cases a; rw [keyOf_rep h1 r]; rfl) | cases h
theorem keyOf_map : ∀ (k : List Key), keyOf (k.map keyI) = some k
  | [] => rfl
  | .inl i :: k => by simp [keyOf, keyI, keyOf_map k]
  | .inr i :: k => by simp [keyOf, keyI, keyOf_map k]
def valD (kvs : List (List Key × D)) (k : List Key) : Option D := (kvs.find? fun kv => decide (kv.1 = k)).map (·.2)
def putD (kvs : List (List Key × D)) (k : List Key) (d : D) : List (List Key × D) :=
  if (kvs.any fun kv => decide (kv.1 = k)) = true then kvs.map (fun kv => if kv.1 = k then (kv.1, d) else kv) else kvs ++ [(k, d)]
section
variable {G : Gr} {m : Mp} {H : Hp}
theorem DctR.val {k : List Key} : ∀ {ws : List (List Key × V)} {kvs : List (List Key × D)}, DctR G m H ws kvs → ∀ {d : D}, valD kvs k = some d → ∃ v, valV ws k = some v ∧ Rep G m H v d
  | _, _, .nil, d, h => by simp [valD] at h
  | _, _, @DctR.cons _ _ _ k' v d' ws kvs a r, d, h => by
    unfold valD valV at *
    simp only [List.find?_cons] at h ⊢
    by_cases e : k' = k
    · simp only [e, decide_true] at h ⊢
      cases h
      exact ⟨v, rfl, a⟩
    · simp only [e, decide_false] at h ⊢
      exact DctR.val r h
theorem DctR.any {k : List Key} : ∀ {ws : List (List Key × V)} {kvs : List (List Key × D)}, DctR G m H ws kvs → (ws.any fun kv => decide (kv.1 = k)) = (kvs.any fun kv => decide (kv.1 = k))
  | _, _, .nil => rfl
  | _, _, .cons _ r => by simp only [List.any_cons, DctR.any r]
theorem DctR.valN {k : List Key} : ∀ {ws : List (List Key × V)} {kvs : List (List Key × D)}, DctR G m H ws kvs → valD kvs k = none → valV ws k = none
  | _, _, .nil, _ => rfl
  | _, _, @DctR.cons _ _ _ k' v d' ws kvs a r, h => by
    unfold valD valV at *
    simp only [List.find?_cons] at h ⊢
    by_cases e : k' = k
    · simp [e] at h
    · simp only [e, decide_false] at h ⊢
      exact DctR.valN r h
theorem DctR.snoc {k : List Key} {v : V} {d : D} (q : Rep G m H v d) : ∀ {ws : List (List Key × V)} {kvs : List (List Key × D)}, DctR G m H ws kvs → DctR G m H (ws ++ [(k, v)]) (kvs ++ [(k, d)])
  | _, _, .nil => .cons q .nil
  | _, _, .cons a r => .cons a (DctR.snoc q r)
theorem DctR.repl {k : List Key} {v : V} {d : D} (q : Rep G m H v d) : ∀ {ws : List (List Key × V)} {kvs : List (List Key × D)}, DctR G m H ws kvs → DctR G m H (ws.map fun kv => if kv.1 = k then (kv.1, v) else kv) (kvs.map fun kv => if kv.1 = k then (kv.1, d) else kv)
  | _, _, .nil => .nil
  | _, _, @DctR.cons _ _ _ k' v' d' ws kvs a r => by
    simp only [List.map_cons]
    by_cases e : k' = k
    · simp only [e, if_true]; exact .cons q (DctR.repl q r)
    · simp only [e, if_false]; exact .cons a (DctR.repl q r)
theorem DctR.put {k : List Key} {v : V} {d : D} {ws : List (List Key × V)} {kvs : List (List Key × D)} (r : DctR G m H ws kvs) (q : Rep G m H v d) : DctR G m H (putK ws k v) (putD kvs k d) := by
  unfold putK putD
  rw [r.any]
  by_cases e : (kvs.any fun kv => decide (kv.1 = k)) = true
  · rw [if_pos e, if_pos e]; exact r.repl q
  · rw [if_neg e, if_neg e]; exact r.snoc q
theorem DctR.keys : ∀ {ws : List (List Key × V)} {kvs : List (List Key × D)}, DctR G m H ws kvs → ws.map (·.1) = kvs.map (·.1)
  | _, _, .nil => rfl
  | _, _, .cons _ r => by simp only [List.map_cons, DctR.keys r]
/-- a dict of the store -/
theorem dct_of {S : Store} {n : Nat} {v : V} {kvs : List (List Key × D)} (sr : SR G m S H) (r : Rep G m H v (.obj n)) (h : S[n]? = some (.dct kvs)) : ∃ a ws, v = .ref a ∧ m.sl[n]? = some (some a) ∧ H a = some (.dT ws) ∧ DctR G m H ws kvs := by
  cases r with
  | @obj n a h1 h2 =>
    cases q : m.sl[n]? with
    | none => rw [List.getElem?_eq_none_iff] at q; omega
    | some o =>
      cases o with
      | none =>
        have z := sr.dead n q
        rw [h] at z; cases z
      | some b =>
        have e := h2 b q
        subst e
        obtain ⟨ws, hx, rx⟩ := sr.at_ n b _ q h
        exact ⟨b, ws, rfl, rfl, hx, rx⟩
end
/-! ### {} -/
def dnewF : F := fun _ S Q _ => Q (.obj S.length) (S ++ [.dct []])
section
variable {G : Gr} {X : Cx} {W : WX} {o i value : Expr} {es : List Expr} {pos sp tp : Pos} {fo fi fv : F} {fk : FG (List D)}
theorem e_dnew : PE X (.Dict [] [] pos) (tE G W dnewF) :=
  PE.imp pe_dnewT fun σ H Q ⟨τ, m, S, QD, QE, sr, er, hf, k, px⟩ p hp => by
    unfold dnewF at hf
    rw [sr.len] at hf
    exact k (m.snoc p) (S ++ [.dct []]) _ (.ref p) (.obj m.sl.length) (Ext.obj sr hp) (sr.objG (ob := .dct []) hp ⟨[], rfl, .nil⟩) rep_obj hf
/-! ### d[(..)] = v -/
def dputS (fv fo : F) (fk : FG (List D)) : FS := fun E τ S => bindF fv (fun d => bindF fo fun o => bindF fk fun ks => fun τ S Q _ => ks.length ≤ sizeLine ∧ match o with
  | .obj n => (match S[n]? with
    | some (.dct kvs) => (match keyOf ks with
      | some k => kvs.length < sizeLine ∧ Q () (S.set n (.dct (putD kvs k d)))
      | none => False)
    | _ => False)
  | _ => False) τ S (fun _ S' => E.nx τ S') (fun x S' => E.ex x τ S')
theorem s_dput {x1} (hu : X.A.units + 1 < cLine) (hv : PE X value (tE G W fv)) (ho : PE X o (tE G W fo)) (hk : PA X es (tA G W fk)) (hs : swapsWith value (some (.Subscript o (.Tuple es x1 tp) sp)) pos.line X.env = pure false) :
    PS X (.Assign [.Subscript o (.Tuple es x1 tp) sp] value pos) (tS G W (dputS fv fo fk)) := by
  refine PS.imp (ps_dput hu ho (pe_tup hk) hv hs) fun D σ H ⟨τ, m, S, E, sr, er, hf, p⟩ => ?_
  have hA : At G (fun _ _ (_ : Unit) (_ : Unit) => True) W (bindF fv (fun d => bindF fo fun o => bindF fk fun ks => fun τ S Q _ => ks.length ≤ sizeLine ∧ match o with
    | .obj n => (match S[n]? with
      | some (.dct kvs) => (match keyOf ks with
        | some k => kvs.length < sizeLine ∧ Q () (S.set n (.dct (putD kvs k d)))
        | none => False)
      | _ => False)
    | _ => False)) τ m S σ H (fun _ H' => D.nx σ H') :=
    ⟨fun _ S' => E.nx τ S', fun x S' => E.ex x τ S', sr, er, hf, fun m1 S1 H1 _ _ e1 sr1 _ q => p.nx m1 S1 H1 σ τ e1 sr1 (er.mono sr e1) q, p.px er sr⟩
  refine ⟨τ, m, S, hA.seq fun m1 S1 H1 v d e1 sr1 r1 h1 => ⟨τ, m1, S1, h1.seq fun m2 S2 H2 ov od e2 sr2 r2 h2 => ⟨τ, m2, S2, h2.seq fun m3 S3 H3 kv kd e3 sr3 r3 h3 => ?_⟩⟩⟩
  obtain ⟨QD, QE, sr, er, hf, k, px⟩ := h3
  obtain ⟨hz, hf⟩ := hf
  refine ⟨by rw [r3.length]; exact hz, fun b hb => ?_⟩
  split at hf
  · split at hf
    · rename_i n kvs hs
      split at hf
      · rename_i ky hky
        obtain ⟨hl, hf⟩ := hf
        have e4 : Ext m3 H3 m3 (upd H3 b (.tup kv)) := Ext.upd sr hb
        have sr4 := sr.upd (o := .tup kv) hb
        obtain ⟨a, ws, rfl, hm, hH, rx⟩ := dct_of sr4 ((r2.mono sr2 e3).mono sr e4) hs
        refine ⟨a, upd (upd H3 b (.tup kv)) a (.dT (putK ws ky v)), rfl, DPut.t hH (by rw [upd_same, keyOf_rep hky r3]) (by rw [rx.length]; exact hl), ?_⟩
        have e5 : Ext m3 (upd H3 b (.tup kv)) m3 (upd (upd H3 b (.tup kv)) a (.dT (putK ws ky v))) := Ext.write sr4 hm
        refine k m3 _ _ () () (e4.trans e5) (sr4.writeG (ob := .dct (putD kvs ky _)) hm ⟨_, rfl, rx.put ((((r1.mono sr1 e2).mono sr2 e3).mono sr e4))⟩ (fun _ z => nomatch z)) trivial hf
      · exact hf.elim
    · exact hf.elim
  · exact hf.elim
/-! ### d[k] -/
def tDGetS (K : PySem.W.Frag) (td ty : TE) : TE := fun σ H Q => td σ H fun x H1 => ty σ H1 fun y H2 => ∃ a b ws k v, x = .ref a ∧ y = .ref b ∧ Rd H2 a (.dT ws) ∧ SqT K H2 b (k.map kV) ∧ valV ws k = some v ∧ Q v H2
theorem pe_dgetS {td ty : TE} (hu : X.A.units + 1 < cLine) (ho : PE X o td) (hi : PE X i ty) (hs : NoSl i) : PE X (.Subscript o i pos) (tDGetS X.K td ty) := by
  refine ⟨fun pins s σ H Q I h => ?_⟩
  refine subD_of PySem.F.slot_dict_getitem.lookup hs (thn (ho.run pins s σ H _ I h) fun u s1 ⟨x, H1, I1, rx, q1⟩ => thn (hi.run pins s1 σ H1 _ I1 q1) fun iv s2 ⟨y, H2, I2, ry, a, b, ws, k, v, ex, ey, hd, hb, hv, q2⟩ => ?_)
  subst ex ey
  obtain rfl : u = Value.ref a := rx
  obtain rfl : iv = Value.ref b := ry
  obtain ⟨z, hsy, xs, rel, dd⟩ := dt_rd I2.hok hd
  obtain ⟨its, rv, ⟨ob, h1, h2, n, h3⟩, _⟩ := I2.tuple hb
  have hkey : (tupleKind (mixKind X.prog X.w)).is s2.heap k b := ⟨ob, its.toArray, n, h1, h2, h3, by simpa using items_are rv⟩
  obtain ⟨w', hw, rw'⟩ := RelO.some_of (v := v) (o := (atKey xs k).map (·.2)) (by rw [← hv]; exact rel.val k)
  obtain ⟨p, hp, hp2⟩ := Option.map_eq_some_iff.mp hw
  refine ⟨dd.typeIs, wpAny_getItem_heap (tupleKind_room_in1 hu) hkey dd hp ?_⟩
  rw [hp2]
  exact ⟨v, H2, I2.tok _, rw', q2⟩
def dgetF (o i : D) : F := fun _ S Q _ => match o, i with
  | .obj n, .tup ks => (match S[n]?, keyOf ks with
    | some (.dct kvs), some k => (match valD kvs k with | some d => Q d S | none => False)
    | _, _ => False)
  | _, _ => False
theorem e_dget (hK : X.K = G.K) (hu : X.A.units + 1 < cLine) (ho : PE X o (tE G W fo)) (hi : PE X i (tE G W fi)) (hs : NoSl i) : PE X (.Subscript o i pos) (tE G W (bindF fo fun o => bindF fi fun i => dgetF o i)) :=
  PE.imp (pe_dgetS hu ho hi hs) fun σ H Q ⟨τ, m, S, h⟩ => ⟨τ, m, S, h.seq fun m1 S1 H1 ov od e1 sr1 r1 h1 => ⟨τ, m1, S1, h1.seq fun m2 S2 H2 iv id e2 sr2 r2 h2 => by
    obtain ⟨QD, QE, sr, er, hf, k, px⟩ := h2
    unfold dgetF at hf
    split at hf
    · split at hf
      · rename_i kvs ky h1 h2
        split at hf
        · rename_i d hd
          obtain ⟨a, ws, rfl, hm, hH, rx⟩ := dct_of sr (r1.mono sr1 e2) h1
          obtain ⟨b, vs, rfl, t1, ra⟩ := r2.getT rfl
          obtain ⟨v, hv, rv⟩ := rx.val hd
          refine ⟨a, b, ws, ky, v, rfl, rfl, .inl hH, ?_, hv, k m2 S2 H2 _ _ (Ext.refl _ _) sr rv hf⟩
          rw [hK, ← keyOf_rep h2 ra]
          exact t1
        · exact hf.elim
      · exact hf.elim
    · exact hf.elim⟩⟩
end
end Dx

set_option Elab.async false
set_option linter.all false
set_option maxRecDepth 100000
set_option maxHeartbeats 4000000
/-! DX: sorted: of lists and of dicts of ints, tuples, alike in shape. -/
namespace Dx
open PySem PySem.Spec PyProof.Rows L2
mutual
/-- alike in shape: ints, or tuples alike in shape at each place -/
def sameD : D → D → Bool
  | .int _, .int _ => true
  | .tup xs, .tup ys => sameDs xs ys
  | _, _ => false
def sameDs : List D → List D → Bool
  | [], [] => true
  | x :: xs, y :: ys => sameD x y && sameDs xs ys
  | _, _ => false
end
mutual
def flatD : D → List Int
  | .int i => [i]
  | .tup ds => flatDs ds
  | _ => []
def flatDs : List D → List Int
  | [] => []
  | d :: ds => flatD d ++ flatDs ds
end
def lexI : List Int → List Int → Bool
  | [], [] => false
  | [], _ :: _ => true
  | _ :: _, [] => false
  | x :: xs, y :: ys => if x = y then lexI xs ys else decide (x < y)
theorem lexI_asym : ∀ (x y : List Int), lexI x y = true → lexI y x = false
  | [], [], h => by simp [lexI] at h
  | [], _ :: _, _ => rfl
  | _ :: _, [], h => by simp [lexI] at h
  | x :: xs, y :: ys, h => by
    unfold lexI at h ⊢
    by_cases e : x = y
    · rw [if_pos e] at h
      rw [if_pos e.symm]
      exact lexI_asym xs ys h
    · rw [if_neg e] at h
      rw [if_neg (fun z => e z.symm)]
      have := of_decide_eq_true h
      exact decide_eq_false (by omega)
theorem lexI_tr : ∀ (x y z : List Int), lexI y x = false → lexI z y = false → lexI z x = false
  | [], y, z, h1, h2 => by
    cases z with
    | nil => rfl
    | cons a b => rfl
  | x :: xs, [], z, h1, h2 => by simp [lexI] at h1
  | x :: xs, y :: ys, [], h1, h2 => by simp [lexI] at h2
  | x :: xs, y :: ys, z :: zs, h1, h2 => by
    unfold lexI at h1 h2 ⊢
    by_cases e : y = x
    · rw [if_pos e] at h1
      by_cases e2 : z = y
      · rw [if_pos e2] at h2
        rw [if_pos (e2.trans e)]
        exact lexI_tr xs ys zs h1 h2
      · rw [if_neg e2] at h2
        rw [if_neg (fun q => e2 (q.trans e.symm)), ← e]
        exact h2
    · rw [if_neg e] at h1
      have a1 := of_decide_eq_false h1
      by_cases e2 : z = y
      · rw [if_pos e2] at h2
        rw [if_neg (fun q => e (e2.symm.trans q)), e2]
        exact h1
      · rw [if_neg e2] at h2
        have a2 := of_decide_eq_false h2
        rw [if_neg (by omega)]
        exact decide_eq_false (by omega)
theorem lexI_app : ∀ (a b c d : List Int), a.length = b.length → lexI (a ++ c) (b ++ d) = if a = b then lexI c d else lexI a b
  | [], [], c, d, _ => by simp
  | [], _ :: _, _, _, h => by simp at h
  | _ :: _, [], _, _, h => by simp at h
  | x :: a, y :: b, c, d, h => by
    have l1 : lexI (x :: a ++ c) (y :: b ++ d) = if x = y then lexI (a ++ c) (b ++ d) else decide (x < y) := rfl
    have l2 : lexI (x :: a) (y :: b) = if x = y then lexI a b else decide (x < y) := rfl
    rw [l1, l2]
    by_cases e : x = y
    · rw [if_pos e, if_pos e, lexI_app a b c d (by simpa using h)]
      by_cases e2 : a = b
      · simp [e, e2]
      · simp [e, e2]
    · rw [if_neg e, if_neg e]
      simp [e]
mutual
theorem flat_len : ∀ (x y : D), sameD x y = true → (flatD x).length = (flatD y).length
  | .int _, .int _, _ => rfl
  | .tup xs, .tup ys, h => by
    simp only [sameD] at h
    simp only [flatD]
    exact flats_len xs ys h
  | .int _, .tup _, h => by simp [sameD] at h
  | .int _, .non, h => by simp [sameD] at h
  | .int _, .bl _, h => by simp [sameD] at h
  | .int _, .str _, h => by simp [sameD] at h
  | .int _, .lst _, h => by simp [sameD] at h
  | .int _, .obj _, h => by simp [sameD] at h
  | .int _, .ty _, h => by simp [sameD] at h
  | .int _, .gl _, h => by simp [sameD] at h
  | .int _, .exv _, h => by simp [sameD] at h
  | .tup _, .int _, h => by simp [sameD] at h
  | .tup _, .non, h => by simp [sameD] at h
  | .tup _, .bl _, h => by simp [sameD] at h
  | .tup _, .str _, h => by simp [sameD] at h
  | .tup _, .lst _, h => by simp [sameD] at h
  | .tup _, .obj _, h => by simp [sameD] at h
  | .tup _, .ty _, h => by simp [sameD] at h
  | .tup _, .gl _, h => by simp [sameD] at h
  | .tup _, .exv _, h => by simp [sameD] at h
  | .non, _, h => by simp [sameD] at h
  | .bl _, _, h => by simp [sameD] at h
  | .str _, _, h => by simp [sameD] at h
  | .lst _, _, h => by simp [sameD] at h
  | .obj _, _, h => by simp [sameD] at h
  | .ty _, _, h => by simp [sameD] at h
  | .gl _, _, h => by simp [sameD] at h
  | .exv _, _, h => by simp [sameD] at h
theorem flats_len : ∀ (xs ys : List D), sameDs xs ys = true → (flatDs xs).length = (flatDs ys).length
  | [], [], _ => rfl
  | [], _ :: _, h => by simp [sameDs] at h
  | _ :: _, [], h => by simp [sameDs] at h
  | x :: xs, y :: ys, h => by
    simp only [sameDs, Bool.and_eq_true] at h
    simp only [flatDs, List.length_append, flat_len x y h.1, flats_len xs ys h.2]
end
/-- by cases on two things alike in shape -/
theorem same_cases {x y : D} (h : sameD x y = true) : (∃ i j, x = .int i ∧ y = .int j) ∨ ∃ xs ys, x = .tup xs ∧ y = .tup ys ∧ sameDs xs ys = true := by
  cases x <;> cases y <;> first | exact .inl ⟨_, _, rfl, rfl⟩ | exact .inr ⟨_, _, rfl, rfl, by simpa [sameD] using h⟩ | (simp [sameD] at h)
mutual
theorem flat_eq : ∀ (x y : D), sameD x y = true → eqD x y = decide (flatD x = flatD y)
  | .int i, .int j, _ => by simp [eqD, flatD]; rfl
  | .tup xs, .tup ys, h => by
    simp only [sameD] at h
    simp only [eqD, flatD]
    exact flats_eq xs ys h
  | .int i, .tup _, h => by simp [sameD] at h
  | .int _, .non, h => by simp [sameD] at h
  | .int _, .bl _, h => by simp [sameD] at h
  | .int _, .str _, h => by simp [sameD] at h
  | .int _, .lst _, h => by simp [sameD] at h
  | .int _, .obj _, h => by simp [sameD] at h
  | .int _, .ty _, h => by simp [sameD] at h
  | .int _, .gl _, h => by simp [sameD] at h
  | .int _, .exv _, h => by simp [sameD] at h
  | .tup _, .int _, h => by simp [sameD] at h
  | .tup _, .non, h => by simp [sameD] at h
  | .tup _, .bl _, h => by simp [sameD] at h
  | .tup _, .str _, h => by simp [sameD] at h
  | .tup _, .lst _, h => by simp [sameD] at h
  | .tup _, .obj _, h => by simp [sameD] at h
  | .tup _, .ty _, h => by simp [sameD] at h
  | .tup _, .gl _, h => by simp [sameD] at h
  | .tup _, .exv _, h => by simp [sameD] at h
  | .non, _, h => by simp [sameD] at h
  | .bl _, _, h => by simp [sameD] at h
  | .str _, _, h => by simp [sameD] at h
  | .lst _, _, h => by simp [sameD] at h
  | .obj _, _, h => by simp [sameD] at h
  | .ty _, _, h => by simp [sameD] at h
  | .gl _, _, h => by simp [sameD] at h
  | .exv _, _, h => by simp [sameD] at h
theorem flats_eq : ∀ (xs ys : List D), sameDs xs ys = true → eqDs xs ys = decide (flatDs xs = flatDs ys)
  | [], [], _ => by simp [eqDs]
  | [], _ :: _, h => by simp [sameDs] at h
  | _ :: _, [], h => by simp [sameDs] at h
  | x :: xs, y :: ys, h => by
    simp only [sameDs, Bool.and_eq_true] at h
    have hl := flat_len x y h.1
    simp only [eqDs, flatDs, flat_eq x y h.1, flats_eq xs ys h.2]
    by_cases e : flatD x = flatD y
    · simp [e]
    · have : ¬ (flatD x ++ flatDs xs = flatD y ++ flatDs ys) := fun z => e (List.append_inj_left z hl)
      simp [e, this]
end
mutual
theorem flat_lt : ∀ (x y : D), sameD x y = true → ltD x y = lexI (flatD x) (flatD y)
  | .int i, .int j, _ => by
    simp only [ltD, flatD, lexI]
    by_cases e : i = j
    · simp [e]
    · simp [e]
  | .tup xs, .tup ys, h => by
    simp only [sameD] at h
    simp only [ltD, flatD]
    exact flats_lt xs ys h
  | .int i, .tup _, h => by simp [sameD] at h
  | .int _, .non, h => by simp [sameD] at h
  | .int _, .bl _, h => by simp [sameD] at h
  | .int _, .str _, h => by simp [sameD] at h
  | .int _, .lst _, h => by simp [sameD] at h
  | .int _, .obj _, h => by simp [sameD] at h
  | .int _, .ty _, h => by simp [sameD] at h
  | .int _, .gl _, h => by simp [sameD] at h
  | .int _, .exv _, h => by simp [sameD] at h
  | .tup _, .int _, h => by simp [sameD] at h
  | .tup _, .non, h => by simp [sameD] at h
  | .tup _, .bl _, h => by simp [sameD] at h
  | .tup _, .str _, h => by simp [sameD] at h
  | .tup _, .lst _, h => by simp [sameD] at h
  | .tup _, .obj _, h => by simp [sameD] at h
  | .tup _, .ty _, h => by simp [sameD] at h
  | .tup _, .gl _, h => by simp [sameD] at h
  | .tup _, .exv _, h => by simp [sameD] at h
  | .non, _, h => by simp [sameD] at h
  | .bl _, _, h => by simp [sameD] at h
  | .str _, _, h => by simp [sameD] at h
  | .lst _, _, h => by simp [sameD] at h
  | .obj _, _, h => by simp [sameD] at h
  | .ty _, _, h => by simp [sameD] at h
  | .gl _, _, h => by simp [sameD] at h
  | .exv _, _, h => by simp [sameD] at h
theorem flats_lt : ∀ (xs ys : List D), sameDs xs ys = true → ltDs xs ys = lexI (flatDs xs) (flatDs ys)
  | [], [], _ => rfl
  | [], _ :: _, h => by simp [sameDs] at h
  | _ :: _, [], h => by simp [sameDs] at h
  | x :: xs, y :: ys, h => by
    simp only [sameDs, Bool.and_eq_true] at h
    have hl := flat_len x y h.1
    simp only [ltDs, flatDs]
    rw [flat_eq x y h.1, flat_lt x y h.1, flats_lt xs ys h.2, lexI_app _ _ _ _ hl]
    simp
end
/-! ### seen on the heap -/
mutual
/-- a value is an int or a tuple of such -/
inductive VD (h : Heap) : Value → D → Prop
  | int (i : Int) (t : Tok) : VD h (.int i t) (.int i)
  | tup {a : Addr} {o : Obj} {us : Array Value} {n : Nat} {ds : List D} : h.get? a = some o → o.cls = .type "tuple" → o.data = .seq us n → VDs h us.toList ds → VD h (.ref a) (.tup ds)
inductive VDs (h : Heap) : List Value → List D → Prop
  | nil : VDs h [] []
  | cons {v : Value} {vs : List Value} {d : D} {ds : List D} : VD h v d → VDs h vs ds → VDs h (v :: vs) (d :: ds)
end
mutual
theorem VD.inj {h : Heap} : ∀ {v : Value} {d e : D}, VD h v d → VD h v e → d = e
  | _, _, _, .int _ _, .int _ _ => rfl
  | _, _, _, .tup h1 c1 d1 r1, .tup h2 c2 d2 r2 => by
    rw [h1] at h2
    cases h2
    rw [d1] at d2
    cases d2
    rw [VDs.inj r1 r2]
theorem VDs.inj {h : Heap} : ∀ {v : List Value} {d e : List D}, VDs h v d → VDs h v e → d = e
  | _, _, _, .nil, .nil => rfl
  | _, _, _, .cons a r, .cons b s => by rw [VD.inj a b, VDs.inj r s]
end
mutual
theorem VD.keeps {h h' : Heap} (k : ∀ b o, h.get? b = some o → o.cls = .type "tuple" → h'.get? b = some o) : ∀ {v : Value} {d : D}, VD h v d → VD h' v d
  | _, _, .int i t => .int i t
  | _, _, .tup h1 c d r => .tup (k _ _ h1 c) c d (VDs.keeps k r)
theorem VDs.keeps {h h' : Heap} (k : ∀ b o, h.get? b = some o → o.cls = .type "tuple" → h'.get? b = some o) : ∀ {v : List Value} {d : List D}, VDs h v d → VDs h' v d
  | _, _, .nil => .nil
  | _, _, .cons a r => .cons (VD.keeps k a) (VDs.keeps k r)
end
theorem VDs.length {h : Heap} : ∀ {v : List Value} {d : List D}, VDs h v d → v.length = d.length
  | _, _, .nil => rfl
  | _, _, .cons _ r => by simp [VDs.length r]
theorem VDs.get {h : Heap} : ∀ {v : List Value} {ds : List D} {j : Nat} (h1 : j < v.length) (h2 : j < ds.length), VDs h v ds → VD h v[j] ds[j]
  | _ :: _, _ :: _, 0, _, _, .cons a _ => a
  | _ :: _, _ :: _, j + 1, h1, h2, .cons _ r => VDs.get (j := j) (by simpa using h1) (by simpa using h2) r
mutual
theorem VD.reads {h : Heap} : ∀ {v : Value} {d : D} {p : PyData}, VD h v d → toPy d = some p → ∃ as, Reads h v p as
  | _, _, _, .int i t, e => by cases e; exact ⟨_, .int i t⟩
  | _, _, _, .tup h1 c d r, e => by
    obtain ⟨ps, e1, rfl⟩ := toPy_tup e
    obtain ⟨as, q⟩ := VDs.reads r e1
    exact ⟨_, .tuple h1 c d q⟩
theorem VDs.reads {h : Heap} : ∀ {v : List Value} {d : List D} {ps : List PyData}, VDs h v d → toPys d = some ps → ∃ as, ReadsAll h v ps as
  | _, _, _, .nil, e => by cases e; exact ⟨_, .nil⟩
  | _, _, _, .cons a r, e => by
    obtain ⟨p, qs, h1, h2, rfl⟩ := toPys_cons e
    obtain ⟨as, q1⟩ := VD.reads a h1
    obtain ⟨bs, q2⟩ := VDs.reads r h2
    exact ⟨_, .cons q1 q2⟩
end
section
variable {prog : Program} {w : World} {A : Around} {E : Value → Shared → Prop} {s : Shared}
theorem vd_eqAt {x y : D} {a b : Value} (ra : VD s.heap a x) (rb : VD s.heap b y) (cx : cmpOk x = true) (cy : cmpOk y = true) (hu : A.units + 64 < cLine) : SeqAt.EqAt A s a b (eqD x y) := by
  obtain ⟨p, p1, p2⟩ := cmpOk_py cx
  obtain ⟨q, q1, q2⟩ := cmpOk_py cy
  obtain ⟨as, r1⟩ := ra.reads p1
  obtain ⟨bs, r2⟩ := rb.reads q1
  rw [← eqv_eqD x y p q p1 q1]
  exact SeqAt.eqAt_reads p q A s a b as bs r1 r2 (SeqAt.canLay_of_shaped p2) (SeqAt.canLay_of_shaped q2) (SeqAt.room_of_shaped p2 hu)
theorem depD_item : ∀ (l : List D) (j : Nat) (hj : j < l.length), depD l[j] ≤ depDs l
  | [], j, hj => absurd hj (by simp)
  | x :: l, 0, hj => by simp only [depDs, List.getElem_cons_zero]; omega
  | x :: l, j + 1, hj => by
    have := depD_item l j (by simpa using hj)
    simp only [depDs, List.getElem_cons_succ]
    omega
theorem sameDs_at : ∀ {xs ys : List D} {j : Nat} (h1 : j < xs.length) (h2 : j < ys.length), sameDs xs ys = true → sameD xs[j] ys[j] = true
  | x :: xs, y :: ys, 0, _, _, h => by simp only [sameDs, Bool.and_eq_true] at h; exact h.1
  | x :: xs, y :: ys, j + 1, h1, h2, h => by
    simp only [sameDs, Bool.and_eq_true] at h
    simp only [List.getElem_cons_succ]
    exact sameDs_at (by simpa using h1) (by simpa using h2) h.2
theorem vd_lt : ∀ (n : Nat) (A : Around) (x y : D) (a b : Value), depD x ≤ n → VD s.heap a x → VD s.heap b y → cmpOk x = true → cmpOk y = true → sameD x y = true → A.units + 65 + n < cLine → Ob.RcOp .Lt A s a b (ltD x y) := by
  intro n
  induction n with
  | zero =>
    intro A x y a b hn ra rb cx cy c hu
    rcases same_cases c with ⟨i, j, rfl, rfl⟩ | ⟨xs, ys, rfl, rfl, hs⟩
    · cases ra; cases rb; exact Ob.RcOp.lt_int i j _ _
    · simp [depD] at hn
  | succ n ih =>
    intro A x y a b hn ra rb cx cy c hu
    rcases same_cases c with ⟨i, j, rfl, rfl⟩ | ⟨xs, ys, rfl, rfl, hs⟩
    · cases ra; cases rb; exact Ob.RcOp.lt_int i j _ _
    cases ra with
    | @tup a' o us k _ h1 c1 d1 q1 =>
    cases rb with
    | @tup b' o2 us2 k2 _ h2 c2 d2 q2 =>
    have l1 : us.size = xs.length := by rw [← q1.length, Array.length_toList]
    have l2 : us2.size = ys.length := by rw [← q2.length, Array.length_toList]
    have hun : A.in1.units = A.units + 1 := Around.in1_units A
    have R := Ob.RcOp.tuples_lt (A := A) (s := s) (l := a') (b := b') (items := us) (items2 := us2) (e := fun j => if h : j < xs.length ∧ j < ys.length then eqD (xs[j]'h.1) (ys[j]'h.2) else true) (r := fun j => if h : j < xs.length ∧ j < ys.length then ltD (xs[j]'h.1) (ys[j]'h.2) else true) ⟨o, h1, c1, k, d1⟩ ⟨o2, h2, c2, k2, d2⟩ (by omega) (fun j h1 h2 => ?_) (fun j h1 h2 hf => ?_)
    · have e1 := ltDs_at xs ys 0 (min xs.length ys.length) (fun j => if h : j < xs.length ∧ j < ys.length then eqD (xs[j]'h.1) (ys[j]'h.2) else true) (fun j => if h : j < xs.length ∧ j < ys.length then ltD (xs[j]'h.1) (ys[j]'h.2) else true) rfl
        (fun j h1 h2 => by simp [h1, h2]) (fun j h1 h2 => by simp [h1, h2])
      rw [l1, l2, e1] at R
      exact R
    all_goals
      have j1 : j < xs.length := by rw [← l1]; exact h1
      have j2 : j < ys.length := by rw [← l2]; exact h2
      have v1 : VD s.heap us[j] xs[j] := by
        have := q1.get (j := j) (by simpa using h1) j1
        simpa using this
      have v2 : VD s.heap us2[j] ys[j] := by
        have := q2.get (j := j) (by simpa using h2) j2
        simpa using this
      simp only [j1, j2, and_self, dite_true]
    · exact vd_eqAt v1 v2 (cmpOk_item cx j1) (cmpOk_item cy j2) (by omega)
    · have dn : depD xs[j] ≤ n := by
        have := depD_item xs j j1
        simp only [depD] at hn
        omega
      exact ih A.in1 xs[j] ys[j] us[j] us2[j] dn v1 v2 (cmpOk_item cx j1) (cmpOk_item cy j2) (sameDs_at j1 j2 hs) (by omega)
/-! ### the sort asks -/
open SrtO in
theorem kat_items {b fin : Bool} {A : Around} : ∀ (us ws : List Value) (xs ys : List D) (i : Nat) (r : Bool), VDs s.heap us xs → VDs s.heap ws ys → sameDs xs ys = true → (∀ j (h : j < xs.length), cmpOk xs[j] = true) → (∀ j (h : j < ys.length), cmpOk ys[j] = true) → A.units + 140 < cLine →
    (b = true → i = 0 → ∀ x ∈ xs.head?, ∃ k, x = .int k) → (sameDs xs ys = true → us.length = ws.length → fin = false) → r = ltDs xs ys →
    PySem.W.KatLex prog w A b fin (fun q s' => s' = s ∧ q = r) (us.zip ws) i s := by
  intro us
  induction us with
  | nil =>
    intro ws xs ys i r r1 r2 hs hx hy hu hb hf hr
    cases r1
    cases ys with
    | cons _ _ => simp [sameDs] at hs
    | nil =>
      cases r2
      refine PySem.W.kat_nil ⟨rfl, ?_⟩
      rw [hf rfl rfl, hr]
      rfl
  | cons u us ih =>
    intro ws xs ys i r r1 r2 hs hx hy hu hb hf hr
    cases r1 with
    | @cons _ _ x xs a ra =>
    cases ys with
    | nil => simp [sameDs] at hs
    | cons y ys =>
    cases r2 with
    | @cons w' ws _ _ c rc =>
    simp only [sameDs, Bool.and_eq_true] at hs
    have cx := hx 0 (by simp)
    have cy := hy 0 (by simp)
    simp only [List.getElem_cons_zero] at cx cy
    refine PySem.W.kat_cons (vd_eqAt a c cx cy (by omega) prog w _ _ ?_)
    refine PySem.W.kat_go (fun e => PySem.W.kat_yes ?_) (fun e => PySem.W.kat_no ?_)
    · refine ih ws xs ys (i + 1) r ra rc hs.2 (fun j h => hx (j + 1) (by simpa using h)) (fun j h => hy (j + 1) (by simpa using h)) hu (fun _ z => by omega) (fun q1 q2 => hf (by simp [sameDs, hs.1, hs.2]) (by simp [q2])) ?_
      rw [hr]
      simp [ltDs, e]
    · have hr' : r = ltD x y := by rw [hr]; simp [ltDs, e]
      by_cases hbi : (b && i == 0) = true
      · simp only [Bool.and_eq_true, beq_iff_eq] at hbi
        obtain ⟨k, rfl⟩ := hb hbi.1 hbi.2 x (by simp)
        rcases same_cases hs.1 with ⟨p, q, e1, rfl⟩ | ⟨_, _, e1, _⟩
        · cases e1
          cases a with
          | int _ t => cases c with
            | int _ t' =>
              rw [hbi.1, hbi.2]
              exact oneLt_int ⟨rfl, by rw [hr']; rfl⟩
        · cases e1
      · have hbi' : (b && i == 0) = false := by simpa using hbi
        rw [hbi']
        have hd : depD x ≤ 64 := by
          unfold cmpOk at cx
          simp only [Bool.and_eq_true, decide_eq_true_eq] at cx
          exact cx.2
        refine PySem.W.kat_one _ _ (vd_lt 64 A x y u w' hd a c cx cy hs.1 (by omega) prog w _ _ ?_)
        exact ⟨rfl, by rw [hr']⟩
/-- fit to be sorted together -/
def fitS (ds : List D) : Bool := ds.all fun x => cmpOk x && !(flatD x).isEmpty && ds.all fun y => sameD x y
noncomputable def kOf (h : Heap) (v : Value) : List Int := open Classical in if e : ∃ d, VD h v d then flatD (Classical.choose e) else []
theorem kOf_eq {h : Heap} {v : Value} {d : D} (r : VD h v d) : kOf h v = flatD d := by
  have e : ∃ d, VD h v d := ⟨d, r⟩
  unfold kOf
  rw [dif_pos e, (Classical.choose_spec e).inj r]
theorem VDs.mem {h : Heap} {v : Value} : ∀ {vs : List Value} {ds : List D}, VDs h vs ds → v ∈ vs → ∃ d ∈ ds, VD h v d
  | _, _, .nil, hm => absurd hm (by simp)
  | _, _, .cons a r, hm => by
    rcases List.mem_cons.mp hm with rfl | hm
    · exact ⟨_, List.mem_cons_self, a⟩
    · obtain ⟨d, h1, h2⟩ := VDs.mem r hm
      exact ⟨d, List.mem_cons_of_mem _ h1, h2⟩
theorem flat_ne_nil {x : D} (h : (flatD x).isEmpty = false) : (∃ i, x = .int i) ∨ ∃ y ys, x = .tup (y :: ys) := by
  cases x <;> simp [flatD] at h
  · exact .inl ⟨_, rfl⟩
  · rename_i ds
    cases ds with
    | nil => simp [flatDs] at h
    | cons y ys => exact .inr ⟨y, ys, rfl⟩
open SrtO in
theorem vd_sortable {a : Addr} {vs : List Value} {ds : List D} (hv : VDs s.heap vs ds) (hf : fitS ds = true) (h2 : 2 ≤ vs.length) (hu : A.units + 140 < cLine) (ha : ∀ o, s.heap.get? a = some o → o.cls ≠ .type "tuple") :
    SortableO prog w A s a vs fun v u => lexI (kOf s.heap v) (kOf s.heap u) := by
  intro h' keep
  have kk : ∀ b o, s.heap.get? b = some o → o.cls = .type "tuple" → h'.get? b = some o := fun b o e c => keep b o (fun z => by subst z; exact ha o e c) e
  have hv' : VDs h' vs ds := hv.keeps kk
  unfold fitS at hf
  rw [List.all_eq_true] at hf
  have fit : ∀ x ∈ ds, cmpOk x = true ∧ (flatD x).isEmpty = false ∧ ∀ y ∈ ds, sameD x y = true := fun x hx => by
    have := hf x hx
    simp only [Bool.and_eq_true, Bool.not_eq_true', List.all_eq_true] at this
    exact ⟨this.1.1, this.1.2, this.2⟩
  have hl := hv.length
  obtain ⟨d0, ds0, e0⟩ : ∃ d0 ds0, ds = d0 :: ds0 := by
    cases ds with
    | nil => rw [hl] at h2; simp at h2
    | cons x xs => exact ⟨x, xs, rfl⟩
  have f0 := fit d0 (by rw [e0]; exact List.mem_cons_self)
  rcases flat_ne_nil f0.2.1 with ⟨i0, ei⟩ | ⟨y0, ys0, et⟩
  · -- ints
    have allI : ∀ (us : List Value) (es : List D), VDs h' us es → (∀ e ∈ es, e ∈ ds) → ∃ ns, IntsAre us ns := by
      intro us
      induction us with
      | nil => intro es _ _; exact ⟨[], .nil⟩
      | cons u us ih =>
        intro es h hm
        cases h with
        | @cons _ _ d es r rr =>
          obtain ⟨ns, hI⟩ := ih es rr fun e he => hm e (List.mem_cons_of_mem _ he)
          have sm := f0.2.2 d (hm d List.mem_cons_self)
          rcases same_cases sm with ⟨i, j, _, rfl⟩ | ⟨_, _, z, _⟩
          · cases r with
            | int _ t => exact ⟨j :: ns, .cons j t hI⟩
          · rw [ei] at z; cases z
    obtain ⟨ns, hI⟩ := allI vs ds hv' fun e h => h
    refine ⟨oneType', fun Q E hq => ?_, ?_⟩
    · match vs, hI, h2 with
      | v1 :: v2 :: rest, hI, _ =>
        rw [keyKind_ints hI]
        exact wpAny_pure hq
      | [], _, h => exact absurd h (by decide)
      | [v], _, h => exact absurd h (by simp)
    · intro p q hm hm'
      obtain ⟨d, hd, rd⟩ := hv.mem hm
      obtain ⟨e, he, re⟩ := hv.mem hm'
      have k1 := kOf_eq rd
      have k2 := kOf_eq re
      show wpAny (model prog w) A (keyLt' oneType' p.1 q.1) (fun r s' => s' = { s with heap := h' } ∧ r = lexI (kOf s.heap p.1) (kOf s.heap q.1)) (fun _ _ => False) { s with heap := h' }
      rw [k1, k2]
      obtain ⟨i, rfl⟩ : ∃ i, d = .int i := by
        rcases same_cases (f0.2.2 d hd) with ⟨i, j, _, rfl⟩ | ⟨_, _, z, _⟩
        · exact ⟨j, rfl⟩
        · rw [ei] at z; cases z
      obtain ⟨j, rfl⟩ : ∃ i, e = .int i := by
        rcases same_cases (f0.2.2 e he) with ⟨i, j, _, rfl⟩ | ⟨_, _, z, _⟩
        · exact ⟨j, rfl⟩
        · rw [ei] at z; cases z
      generalize p.1 = pv at rd
      generalize q.1 = qv at re
      cases rd with
      | int _ t => cases re with
        | int _ t' =>
          rw [keyLt'_oneType]
          refine oneLt_int ⟨rfl, ?_⟩
          rw [← flat_lt (.int i) (.int j) rfl]
          rfl
  · -- tuples
    have tups : ∀ d ∈ ds, ∃ y ys, d = .tup (y :: ys) := fun d hd => by
      rcases same_cases (f0.2.2 d hd) with ⟨i, j, z, _⟩ | ⟨_, ws, z, rfl, hs⟩
      · rw [et] at z; cases z
      · rw [et] at z; cases z
        cases ws with
        | nil => simp [sameDs] at hs
        | cons a b => exact ⟨a, b, rfl⟩
    have firsts : ∀ (us : List Value) (es : List D), VDs h' us es → (∀ e ∈ es, e ∈ ds) → ∃ fs, PySem.W.KatTups h' us fs ∧ fs.length = us.length ∧ ∀ f ∈ fs, ∃ y ys, D.tup (y :: ys) ∈ ds ∧ VD h' f y := by
      intro us
      induction us with
      | nil => intro es _ _; exact ⟨[], PySem.W.KatTups.nil, rfl, fun f h => absurd h (by simp)⟩
      | cons u us ih =>
        intro es h hm
        cases h with
        | @cons _ _ d es r rr =>
          obtain ⟨fs, q1, q2, q3⟩ := ih es rr fun e he => hm e (List.mem_cons_of_mem _ he)
          obtain ⟨y, ys, rfl⟩ := tups d (hm d List.mem_cons_self)
          have hmem := hm _ (List.mem_cons_self (a := D.tup (y :: ys)) (l := es))
          cases r with
          | @tup a' o us' n _ g1 c1 d1 rr1 =>
            obtain ⟨l, hl⟩ : ∃ l, us'.toList = l := ⟨_, rfl⟩
            rw [hl] at rr1
            cases rr1 with
            | @cons f fr _ _ rf rfr =>
              have g0 : us'[0]? = some f := by rw [← Array.getElem?_toList, hl]; rfl
              refine ⟨f :: fs, PySem.W.KatTups.cons g1 c1 d1 g0 q1, by simp [q2], fun z hz => ?_⟩
              rcases List.mem_cons.mp hz with rfl | hz
              · exact ⟨y, ys, hmem, rf⟩
              · exact q3 z hz
    obtain ⟨fs, q1, q2, q3⟩ := firsts vs ds hv' fun e h => h
    -- the kind of the firsts
    have go : ∀ (T : Value) (b : Bool), (T != Value.type "tuple") = b → (T == T) = true → (∀ f ∈ fs, PySem.W.Looks (model prog w) h' (typeOf f) T) → (b = true → ∀ d ∈ ds, ∀ y ys, d = .tup (y :: ys) → ∃ k, y = .int k) →
        ∃ κ, (∀ (Q : SortKind → Shared → Prop) (E : Value → Shared → Prop), Q κ { s with heap := h' } → wpAny (model prog w) A (keyKind' vs.toArray) Q E { s with heap := h' }) ∧ Cmp prog w A { s with heap := h' } κ (fun p => p.1 ∈ vs) (lt2 fun v u => lexI (kOf s.heap v) (kOf s.heap u)) := by
      intro T b hb hT hl hbi
      refine ⟨tuples' b, fun Q E hq => PySem.W.kat_kind (T := T) q1 (by omega) hl hT (by rw [hb]; exact hq), ?_⟩
      intro p q hm hm'
      obtain ⟨d, hd, rd⟩ := hv.mem hm
      obtain ⟨e, he, re⟩ := hv.mem hm'
      have k1 := kOf_eq rd
      have k2 := kOf_eq re
      show wpAny (model prog w) A (keyLt' (tuples' b) p.1 q.1) (fun r s' => s' = { s with heap := h' } ∧ r = lexI (kOf s.heap p.1) (kOf s.heap q.1)) (fun _ _ => False) { s with heap := h' }
      have sm : sameD d e = true := (fit d hd).2.2 e he
      rw [k1, k2, ← flat_lt d e sm]
      obtain ⟨y, ys, rfl⟩ := tups d hd
      obtain ⟨y', ys', rfl⟩ := tups e he
      have rd := rd.keeps kk
      have re := re.keeps kk
      generalize p.1 = pv at rd
      generalize q.1 = qv at re
      cases rd with
      | @tup a1 o1 u1 n1 _ g1 c1 d1 r1 => cases re with
        | @tup a2 o2 u2 n2 _ g2 c2 d2 r2 =>
          have ssm : sameDs (y :: ys) (y' :: ys') = true := by simpa [sameD] using sm
          refine PySem.W.kat_lt (s := { s with heap := h' }) g1 d1 g2 d2 ?_
          refine kat_items (s := { s with heap := h' }) (A := A) u1.toList u2.toList (y :: ys) (y' :: ys') 0 _ r1 r2 ssm (fun j h => cmpOk_item (fit _ hd).1 h) (fun j h => cmpOk_item (fit _ he).1 h) hu (fun h1 _ x hx => ?_) (fun _ hlen => ?_) ?_
          · simp only [List.head?_cons, Option.mem_some_iff] at hx
            subst hx
            exact hbi h1 _ hd _ _ rfl
          · simp only [Array.length_toList] at hlen
            rw [hlen]
            exact decide_eq_false (Nat.lt_irrefl _)
          · simp [ltD]
    -- ints or tuples first
    have f0' := (fit d0 (by rw [e0]; exact List.mem_cons_self))
    by_cases hi : ∃ i, y0 = .int i
    · have all : ∀ d ∈ ds, ∀ y ys, d = .tup (y :: ys) → ∃ k, y = .int k := fun d hd y ys ed => by
        have sm := f0.2.2 d hd
        rw [et, ed] at sm
        simp only [sameD, sameDs, Bool.and_eq_true] at sm
        obtain ⟨i, rfl⟩ := hi
        rcases same_cases sm.1 with ⟨_, j, _, rfl⟩ | ⟨_, _, z, _⟩
        · exact ⟨j, rfl⟩
        · cases z
      refine go (.type "int") true (by rfl) (by rfl) (fun f hf => ?_) (fun _ => all)
      obtain ⟨y, ys, hm, rf⟩ := q3 f hf
      obtain ⟨k, rfl⟩ := all _ hm y ys rfl
      cases rf with
      | int _ t => exact PySem.W.Looks.now
    · have all : ∀ d ∈ ds, ∀ y ys, d = .tup (y :: ys) → ∃ zs, y = .tup zs := fun d hd y ys ed => by
        have sm := f0.2.2 d hd
        rw [et, ed] at sm
        simp only [sameD, sameDs, Bool.and_eq_true] at sm
        rcases same_cases sm.1 with ⟨i, j, z, _⟩ | ⟨_, zs, _, rfl, _⟩
        · exact absurd ⟨i, z⟩ hi
        · exact ⟨zs, rfl⟩
      refine go (.type "tuple") false (by decide) (by decide) (fun f hf => ?_) (fun z => Bool.noConfusion z)
      obtain ⟨y, ys, hm, rf⟩ := q3 f hf
      obtain ⟨zs, rfl⟩ := all _ hm y ys rfl
      cases rf with
      | @tup a' o us' n _ g1 c1 d1 rr1 =>
        have := show PySem.W.Looks (model prog w) h' (typeOf (.ref a')) o.cls from (PySem.W.Looks.ld g1).andThen .now
        rw [c1] at this
        exact this
end
end Dx

set_option Elab.async false
set_option linter.all false
set_option maxRecDepth 100000
set_option maxHeartbeats 4000000
/-! DX: sorted, as a call. -/
namespace Dx
open PySem PySem.Spec PyProof.Rows L2
theorem VDs.perm {h : Heap} {vs out : List Value} (p : out.Perm vs) : ∀ {ds : List D}, VDs h vs ds → ∃ es, VDs h out es ∧ es.Perm ds := by
  have key : ∀ {a b : List Value}, a.Perm b → ∀ {ds : List D}, VDs h a ds → ∃ es, VDs h b es ∧ es.Perm ds := by
    intro a b p
    induction p with
    | nil => intro ds r; cases r; exact ⟨[], .nil, List.Perm.refl _⟩
    | cons x p ih =>
      intro ds r
      cases r with
      | @cons _ _ d ds q r =>
        obtain ⟨es, r1, p1⟩ := ih r
        exact ⟨d :: es, .cons q r1, p1.cons d⟩
    | swap x y l =>
      intro ds r
      cases r with
      | @cons _ _ d ds q r =>
        cases r with
        | @cons _ _ e ds q2 r => exact ⟨e :: d :: ds, .cons q2 (.cons q r), List.Perm.swap d e ds⟩
    | trans p1 p2 ih1 ih2 =>
      intro ds r
      obtain ⟨es, r1, q1⟩ := ih1 r
      obtain ⟨fs, r2, q2⟩ := ih2 r1
      exact ⟨fs, r2, q2.trans q1⟩
  intro ds r
  exact key p.symm r
theorem VDs.memD {h : Heap} {e : D} : ∀ {vs : List Value} {ds : List D}, VDs h vs ds → e ∈ ds → ∃ v ∈ vs, VD h v e
  | _, _, .nil, hm => absurd hm (by simp)
  | _, _, .cons a r, hm => by
    rcases List.mem_cons.mp hm with rfl | hm
    · exact ⟨_, List.mem_cons_self, a⟩
    · obtain ⟨d, h1, h2⟩ := VDs.memD r hm
      exact ⟨d, List.mem_cons_of_mem _ h1, h2⟩
theorem VDs.pw {h : Heap} : ∀ {out : List Value} {es : List D}, VDs h out es → (∀ x ∈ es, ∀ y ∈ es, sameD x y = true) → out.Pairwise (fun x y => lexI (kOf h y) (kOf h x) = false) → es.Pairwise (fun x y => ltD y x = false)
  | _, _, .nil, _, _ => List.Pairwise.nil
  | _, _, @VDs.cons _ v vs d ds a r, hs, hp => by
    obtain ⟨h1, h2⟩ := List.pairwise_cons.mp hp
    refine List.pairwise_cons.mpr ⟨fun e he => ?_, VDs.pw r (fun x hx y hy => hs x (List.mem_cons_of_mem _ hx) y (List.mem_cons_of_mem _ hy)) h2⟩
    obtain ⟨u, hu, ru⟩ := r.memD he
    have := h1 u hu
    rw [kOf_eq ru, kOf_eq a, ← flat_lt e d (hs e (List.mem_cons_of_mem _ he) d List.mem_cons_self)] at this
    exact this
section
variable {prog : Program} {w : World} {A : Around} {E : Value → Shared → Prop} {s : Shared}
theorem sorted_src {l : Addr} {vs : List Value} {ds : List D} {Q : Value → Shared → Prop}
    (hC : ∀ (E' : Value → Shared → Prop) (Q' : List Value → Shared → Prop), (∀ (h₁ : Heap) (tk : Nat), (∀ b o, s.heap.get? b = some o → h₁.get? b = some o) → s.heap.objs.size ≤ h₁.objs.size → Q' vs { s with heap := h₁, toks := tk }) → wpAny (model prog w) A.in1 (collect (.ref l)) Q' E' s)
    (hz : vs.length ≤ sizeLine) (hv : VDs s.heap vs ds) (hf : fitS ds = true) (hu : A.units + 150 < cLine)
    (h : ∀ (h' : Heap) (d : Addr) (out : List Value) (es : List D) (tk : Nat), VDs h' out es → es.Perm ds → out.Perm vs → es.Pairwise (fun x y => ltD y x = false) → (∀ b o, s.heap.get? b = some o → h'.get? b = some o) → s.heap.objs.size ≤ d → (∃ n, h'.get? d = some (seqObj "list" out.toArray n)) → Q (.ref d) { s with heap := h', toks := tk }) :
    wpAny (model prog w) A (call (.builtin "sorted") [.ref l]) Q E s := by
  refine Calls.call_function_entry kind_sorted plain_sorted entry_sorted (args_sorted1 _) ?_
  unfold Builtin.«sorted»
  refine wpAny_bind (m := checkCount "sorted" 1 1 _) (wpAny_pure ?_)
  refine wpAny_bind (hC _ _ fun h₁ tk k1 hsz => ?_)
  refine wpAny_bind (wpAny_newList ?_ hz)
  have hoL : (h₁.push (seqObj "list" vs.toArray 0)).get? h₁.objs.size = some (seqObj "list" vs.toArray 0) := Heap.get?_push_size _ rfl
  have k2 : ∀ b o, s.heap.get? b = some o → b ≠ h₁.objs.size ∧ (h₁.push (seqObj "list" vs.toArray 0)).get? b = some o := fun b o q => ⟨Nat.ne_of_lt (Heap.lt_size (k1 b o q)), Heap.get?_push_of_some _ (k1 b o q)⟩
  have hv2 : VDs (h₁.push (seqObj "list" vs.toArray 0)) vs ds := hv.keeps fun b o e _ => (k2 b o e).2
  show wpAny _ _ _ _ _ { s with heap := h₁.push (seqObj "list" vs.toArray 0), toks := tk }
  have hun : A.in1.units = A.units + 1 := Around.in1_units A
  have hun2 : A.in1.in1.units = A.units + 2 := by rw [Around.in1_units A.in1, hun]
  have O : SrtO.Swo fun v u => lexI (kOf (h₁.push (seqObj "list" vs.toArray 0)) v) (kOf (h₁.push (seqObj "list" vs.toArray 0)) u) := ⟨fun x y => lexI_asym _ _, fun x y z => lexI_tr _ _ _⟩
  refine wpAny_bind (wpAny_holding (wpAny_call_entry slot_list_sort ⟨_, hoL, rfl⟩ entry_list_sort (SrtO.list_sort_ord O hoL hz (fun h2 => vd_sortable (s := { s with heap := h₁.push (seqObj "list" vs.toArray 0), toks := tk }) hv2 hf h2 (by omega) fun o e => ?_) fun out hs hb => ⟨_, rfl, ?_⟩) (args_list_sort _)))
  · have e' : some o = some (seqObj "list" vs.toArray 0) := e.symm.trans hoL
    cases e'
    intro c
    exact absurd (Value.type.inj c) (by decide)
  · obtain ⟨es, r1, p1⟩ := VDs.perm hb.perm hv2
    have k3 : ∀ b o, s.heap.get? b = some o → (sortedHeap (h₁.push (seqObj "list" vs.toArray 0)) h₁.objs.size vs out.toArray).get? b = some o := fun b o e => by
      rw [sortedHeap_old (k2 b o e).1 (Heap.lt_size (k2 b o e).2)]
      exact (k2 b o e).2
    have k4 : ∀ b o, (h₁.push (seqObj "list" vs.toArray 0)).get? b = some o → o.cls = .type "tuple" → (sortedHeap (h₁.push (seqObj "list" vs.toArray 0)) h₁.objs.size vs out.toArray).get? b = some o := fun b o e c => by
      have hb : b ≠ h₁.objs.size := fun z => by
        subst z
        have e' : some o = some (seqObj "list" vs.toArray 0) := e.symm.trans hoL
        cases e'
        exact absurd (Value.type.inj c) (by decide)
      rw [sortedHeap_old hb (Heap.lt_size e)]
      exact e
    have sm : ∀ x ∈ es, ∀ y ∈ es, sameD x y = true := fun x hx y hy => by
      unfold fitS at hf
      rw [List.all_eq_true] at hf
      have := hf x (p1.mem_iff.mp hx)
      simp only [Bool.and_eq_true, List.all_eq_true] at this
      exact this.2 y (p1.mem_iff.mp hy)
    obtain ⟨n, hn⟩ := sortedHeap_at (n := 0) (vs := vs) (out := out.toArray) hoL
    exact wpAny_pure ⟨_, rfl, h _ _ out es tk (r1.keeps k4) p1 hb.perm (r1.pw sm hs) k3 hsz ⟨n, hn⟩⟩
theorem collect_dict {d : Addr} {o : Obj} {es : Array DictEntry} {ep : Nat} (lo : (d == sysModules) = false) (hx : o.ExactDict) (hd : o.data = .dict es ep) (hh : A.handled = none) (ho : s.heap.get? d = some o) (hn : es.size ≤ sizeLine) (Q : List Value → Shared → Prop)
    (hQ : ∀ (h₁ : Heap) (tk : Nat), (∀ b o, s.heap.get? b = some o → h₁.get? b = some o) → s.heap.objs.size ≤ h₁.objs.size → Q (es.toList.map (·.key)) { s with heap := h₁, toks := tk }) : wpAny (model prog w) A (collect (.ref d)) Q E s := by
  have hlt := Heap.lt_size ho
  unfold collect
  refine wpAny_bind (wpAny_runValue (codeAny_builtin F.entry_proto_collect ?_))
  rw [Around.under_plainId F.plain_proto_collect _]
  show wpAny _ A.in1 (newList [] >>= fun l => again (.builtin "list.__iadd__" ⟨[l, .ref d], []⟩)) _ _ s
  refine wpAny_bind (wpAny_newObj_type ?_)
  refine wpAny_pure ⟨plainId_quiet F.plain_list_iadd _, codeAny_builtin F.entry_list_iadd ?_⟩
  rw [Around.under_plainId F.plain_list_iadd _]
  show wpAny _ A.in1 (Builtin.List.listExtendWith (.ref s.heap.objs.size) (.ref d) (.ref s.heap.objs.size)) _ _ _
  have hS : (s.heap.push { cls := .type "list", data := .seq ([] : List Value).toArray }).get? s.heap.objs.size = some { cls := .type "list", data := .seq #[] 0 } := Heap.get?_push_size _ rfl
  have hSd : s.heap.objs.size ≠ d := Nat.ne_of_gt hlt
  refine wpAny_mono (PySem.W.kdl_extend (A := A) (R := fun rr s' => rr = .ok (.ret (.ref s.heap.objs.size)) ∧ ∃ (h' : Heap) (tk : Nat) (acc : Array Value) (c' : Nat), s' = { s with heap := h', toks := tk } ∧
      (∀ b o, s.heap.get? b = some o → h'.get? b = some o) ∧ h'.get? s.heap.objs.size = some { cls := .type "list", dict := none, data := .seq acc c', slots := #[] } ∧ ItemsOf (fun i v => ∃ en : DictEntry, es[i]? = some en ∧ v = en.key) acc es.size)
    (s := { s with heap := s.heap.push { cls := .type "list", data := .seq ([] : List Value).toArray } }) (kdl_raw lo hx hd) hh (Heap.get?_push_of_some _ ho) s.heap.objs.size hSd hSd _ 0 hS
    (fun h' tk acc c' hk e hi => ⟨rfl, h', tk, acc, c', rfl, fun b o q => hk b o (Nat.ne_of_lt (Heap.lt_size q)) (Heap.get?_push_of_some _ q), e, hi⟩) hn) (fun f0 s' h => ?_) (fun e s' h => ?_)
  · have fin : ∀ (h' : Heap) (tk : Nat) (acc : Array Value) (c' : Nat), (∀ b o, s.heap.get? b = some o → h'.get? b = some o) → h'.get? s.heap.objs.size = some { cls := .type "list", dict := none, data := .seq acc c', slots := #[] } → ItemsOf (fun i v => ∃ en : DictEntry, es[i]? = some en ∧ v = en.key) acc es.size → Q acc.toList { s with heap := h', toks := tk } := by
      intro h' tk acc c' hk hS' hi
      have ea : acc.toList = es.toList.map (·.key) := by
        have hl : acc.toList.length = es.size := by rw [Array.length_toList, hi.1]
        apply List.ext_getElem?
        intro j
        have he : es.toList[j]? = es[j]? := Array.getElem?_toList ..
        rw [List.getElem?_map, he]
        cases hj : acc.toList[j]? with
        | none =>
          have h1 := List.getElem?_eq_none_iff.mp hj
          rw [Array.getElem?_eq_none (by omega)]
          rfl
        | some v =>
          obtain ⟨en, hen, hv⟩ := hi.2 j v (by rw [← Array.getElem?_toList]; exact hj)
          rw [hen, hv]
          rfl
      rw [ea]
      exact hQ h' tk hk (Nat.le_of_lt (Heap.lt_size hS'))
    cases f0 with
    | done f =>
      obtain ⟨e, h', tk, acc, c', rfl, hk, hS', hi⟩ := h
      cases e
      show wpAny _ A (load s.heap.objs.size >>= _) _ _ _
      exact wpAny_bind (wpAny_load hS' (wpAny_pure (fin h' tk acc c' hk hS' hi)))
    | again c' =>
      refine ⟨h.1, codeAny_mono h.2 fun rr s'' hr' => ?_⟩
      obtain ⟨rfl, h', tk, acc, c', rfl, hk, hS', hi⟩ := hr'
      show wpAny _ A (load s.heap.objs.size >>= _) _ _ _
      exact wpAny_bind (wpAny_load hS' (wpAny_pure (fin h' tk acc c' hk hS' hi)))
  · exact absurd h.1 (by simp)
end
/-! ### as a call -/
section
variable {G : Gr} {X : Cx} {pins : List (Addr × Obj)} {σ : L2.St} {H : Hp} {s : Shared} {m : Mp}
mutual
theorem toVD (I : Inv X pins σ H s) (hK : X.K = G.K) : ∀ (d : D) (v : V) (u : Value), sameD d d = true → Rep G m H v d → RelV v u → VD s.heap u d
  | .int i, v, u, _, r, q => by
    cases r
    obtain ⟨t, rfl⟩ := q
    exact .int i t
  | .tup ds, v, u, h, r, q => by
    obtain ⟨a, xs, rfl, t1, ra⟩ := r.getT rfl
    cases q
    obtain ⟨its, rv, ⟨o, h1, h2, n, h3⟩, _⟩ := I.tuple (hK ▸ t1)
    exact .tup h1 h2 h3 (by simpa using toVDs I hK ds xs its (by simpa [sameD] using h) ra rv)
  | .non, _, _, h, _, _ => by simp [sameD] at h
  | .bl _, _, _, h, _, _ => by simp [sameD] at h
  | .str _, _, _, h, _, _ => by simp [sameD] at h
  | .lst _, _, _, h, _, _ => by simp [sameD] at h
  | .obj _, _, _, h, _, _ => by simp [sameD] at h
  | .ty _, _, _, h, _, _ => by simp [sameD] at h
  | .gl _, _, _, h, _, _ => by simp [sameD] at h
  | .exv _, _, _, h, _, _ => by simp [sameD] at h
theorem toVDs (I : Inv X pins σ H s) (hK : X.K = G.K) : ∀ (ds : List D) (vs : List V) (us : List Value), sameDs ds ds = true → RepAll G m H vs ds → Vals vs us → VDs s.heap us ds
  | [], _, _, _, r, q => by cases r; cases q; exact .nil
  | d :: ds, _, _, h, r, q => by
    simp only [sameDs, Bool.and_eq_true] at h
    cases r with
    | cons a r => cases q with
      | cons b q => exact .cons (toVD I hK d _ _ h.1 a b) (toVDs I hK ds _ _ h.2 r q)
end
theorem toVDl (I : Inv X pins σ H s) (hK : X.K = G.K) : ∀ {ds : List D} {vs : List V} {us : List Value}, (∀ d ∈ ds, sameD d d = true) → RepAll G m H vs ds → Vals vs us → VDs s.heap us ds
  | [], _, _, _, r, q => by cases r; cases q; exact .nil
  | d :: ds, _, _, h, r, q => by
    cases r with
    | cons a r => cases q with
      | cons b q => exact .cons (toVD I hK d _ _ (h d List.mem_cons_self) a b) (toVDl I hK (fun e he => h e (List.mem_cons_of_mem _ he)) r q)
theorem trip {h : Heap} : ∀ {ds : List D} {vs : List V} {us : List Value} {u : Value}, RepAll G m H vs ds → Vals vs us → VDs h us ds → u ∈ us → ∃ x d, RelV x u ∧ Rep G m H x d ∧ VD h u d
  | _, _, _, u, .nil, .nil, _, hm => absurd hm (by simp)
  | _, _, _, u, .cons a r, .cons b q, .cons c t, hm => by
    rcases List.mem_cons.mp hm with rfl | hm
    · exact ⟨_, _, b, a, c⟩
    · exact trip r q t hm
theorem backAll {h : Heap} : ∀ {out : List Value} {es : List D}, VDs h out es → (∀ u ∈ out, ∃ x d, RelV x u ∧ Rep G m H x d ∧ VD h u d) → ∃ xs, Vals xs out ∧ RepAll G m H xs es
  | _, _, .nil, _ => ⟨[], .nil, .nil⟩
  | _, _, .cons a r, hk => by
    obtain ⟨x, d, q1, q2, q3⟩ := hk _ List.mem_cons_self
    obtain ⟨xs, r1, r2⟩ := backAll r fun u hu => hk u (List.mem_cons_of_mem _ hu)
    rw [q3.inj a] at q2
    exact ⟨x :: xs, .cons q1 r1, .cons q2 r2⟩
/-- what is sorted: a list of the heap, or a dict's keys -/
def rSortD (G : Gr) (K : PySem.W.Frag) : List V → Hp → VK → Prop := fun vs H Q => ∃ (m : Mp) (a : Addr) (ds : List D), vs = [.ref a] ∧ fitS ds = true ∧
  ((∃ xs, SqL K H a xs ∧ RepAll G m H xs ds) ∨ ∃ ws, H a = some (.dT ws) ∧ ds = ws.map fun p => keyT p.1) ∧
  ∀ (es : List D) (p : Addr) (xs : List V), es.Perm ds → es.Pairwise (fun x y => ltD y x = false) → H p = none → RepAll G m H xs es → Q (.ref p) (upd H p (.lst xs))
theorem fitS_all {ds : List D} (h : fitS ds = true) : ∀ d ∈ ds, sameD d d = true := fun d hd => by
  unfold fitS at h
  rw [List.all_eq_true] at h
  have := h d hd
  simp only [Bool.and_eq_true, List.all_eq_true] at this
  exact this.2 d hd
theorem rep_keys {ws : List (List Key × V)} {bs : List Addr} (h : IsKeys H ws bs) : RepAll G m H (bs.map V.ref) (ws.map fun p => keyT p.1) := by
  unfold IsKeys at h
  induction h with
  | nil => exact .nil
  | @cons p b ps bs e t ih =>
    refine .cons ?_ ih
    refine .tup (.inl (.inl e)) ?_
    generalize p.1 = k
    induction k with
    | nil => exact .nil
    | cons a k ihk =>
      refine .cons ?_ ihk
      cases a with
      | inl i => exact .int i
      | inr z => exact .str z
theorem cr_sortD (hK : X.K = G.K) (hc : X.calm = true) (hu : X.A.units + 150 < cLine) : CallR X (.builtin "sorted") (rSortD G X.K) := by
  intro pins s σ H vs us Q I r h
  obtain ⟨m, a, ds, rfl, hf, src, q⟩ := h
  obtain ⟨u, rfl, ru⟩ := vals1 r
  obtain rfl : u = Value.ref a := ru
  have fin : ∀ (xs : List V) (its : List Value), Vals xs its → RepAll G m H xs ds → its.length ≤ sizeLine →
      (∀ (E' : Value → Shared → Prop) (Q' : List Value → Shared → Prop), (∀ (h₁ : Heap) (tk : Nat), (∀ b o, s.heap.get? b = some o → h₁.get? b = some o) → s.heap.objs.size ≤ h₁.objs.size → Q' its { s with heap := h₁, toks := tk }) → wpAny (model X.prog X.w) X.A.in1 (collect (.ref a)) Q' E' s) →
      wpAny (model X.prog X.w) X.A (call (.builtin "sorted") [.ref a]) (EP X pins σ Q) X.xe s := by
    intro xs its rv ra hz hC
    have hv : VDs s.heap its ds := toVDl I hK (fitS_all hf) ra rv
    refine sorted_src hC hz hv hf hu fun h' d out es tk r1 p1 p2 pw k hd ⟨n, hn⟩ => ?_
    have hn0 : H d = none := I.hok.fresh hd
    obtain ⟨ys, v1, v2⟩ := backAll (G := G) (m := m) (H := H) r1 fun u hu => by
      obtain ⟨x, d, q1, q2, q3⟩ := trip ra rv hv (p2.mem_iff.mp hu)
      exact ⟨x, d, q1, q2, q3.keeps fun b o e _ => k b o e⟩
    refine ⟨.ref d, upd H d (.lst ys), I.laid (t' := tk) k hd ⟨?_, out, n, v1, hn⟩, rfl, q es d ys p1 pw hn0 v2⟩
    rw [v1.length, p2.length_eq]
    exact hz
  rcases src with ⟨xs, hl, ra⟩ | ⟨ws, ha, rfl⟩
  · obtain ⟨its, rv, pl, hz⟩ := I.list hl
    refine fin xs its rv ra (by rw [← rv.length]; exact hz) fun E' Q' hQ => ?_
    refine collect_list pl.isList (hQ _ s.toks (fun b o e => ?_) ?_) (by rw [← rv.length]; exact hz)
    · rw [Heap.get?_update_ne _ _ _ _ (Nat.ne_of_lt (Heap.lt_size e))]
      exact Heap.get?_push_of_some _ e
    · rw [Heap.size_update, size_push']
      exact Nat.le_succ _
  · obtain ⟨z, hs, ks, pr, o, es, ep, ho, hx, hdt, he, hn⟩ := (show ObjOk X.prog X.w H s.heap a (.dT ws) from I.hok a _ ha)
    have l1 : es.size = ks.length := size_of_entries he
    have l2 : ws.length = ks.length := Paired.length pr
    have ea : es.toList.map (·.key) = (ks.map fun x => x.2.1).map Value.ref := by
      apply List.ext_getElem?
      intro j
      rw [List.map_map, List.getElem?_map, List.getElem?_map]
      have qe := entry_at he j
      have hes : es.toList[j]? = es[j]? := Array.getElem?_toList ..
      rw [hes, qe]
      cases ks[j]? with
      | none => rfl
      | some b => rfl
    refine fin ((ks.map fun x => x.2.1).map V.ref) ((ks.map fun x => x.2.1).map Value.ref) (vals_refs _) (rep_keys (isKeys_of pr)) (by rw [List.length_map, List.length_map]; omega) fun E' Q' hQ => ?_
    rw [← ea] at hQ
    exact collect_dict (A := X.A.in1) hs hx hdt (I.ok.hd hc) ho (by omega) Q' hQ
def srcS (S : Store) : D → Option (List D)
  | .obj n => (match S[n]? with
    | some (.lst ds) => some ds
    | some (.dct kvs) => some (kvs.map fun p => keyT p.1)
    | _ => none)
  | .lst ds => some ds
  | _ => none
def sortB (mu : Bool) (ds : List D) : F := fun τ S Q E => match ds with
  | [d] => (match srcS S d with
    | some xs => fitS xs = true ∧ ∀ es : List D, es.Perm xs → es.Pairwise (fun x y => ltD y x = false) → newL mu es τ S Q E
    | none => False)
  | _ => False
theorem bf_sort (hK : X.K = G.K) (hc : X.calm = true) (hu : X.A.units + 150 < cLine) (mu : Bool) : BF G X (.builtin "sorted") (sortB mu) := by
  refine ⟨_, cr_sortD hK hc hu, fun W τ m S σ H Q vs ds r hA => ?_⟩
  obtain ⟨QD, QE, sr, er, hf, k, px⟩ := hA
  unfold sortB at hf
  split at hf
  · rename_i d
    split at hf
    · rename_i xs hx
      obtain ⟨hfit, hf⟩ := hf
      cases r with
      | cons a r =>
        cases r
        have back : ∀ (es : List D) (p : Addr) (ys : List V), es.Perm xs → es.Pairwise (fun x y => ltD y x = false) → H p = none → RepAll G m H ys es → Q (.ref p) (upd H p (.lst ys)) := fun es p ys p1 p2 hp ry =>
          At.newL (W := W) (mu := mu) ⟨QD, QE, sr, er, hf es p1 p2, k, px⟩ hp ry
        unfold srcS at hx
        split at hx
        · rename_i n
          split at hx
          · rename_i es hs
            cases hx
            obtain ⟨b, zs, rfl, h1, h2, rz⟩ := live_of sr a hs
            exact ⟨m, b, _, rfl, hfit, .inl ⟨zs, .inl (.inl h2), rz⟩, back⟩
          · rename_i kvs hs
            cases hx
            obtain ⟨b, ws, rfl, h1, h2, rz⟩ := dct_of sr a hs
            refine ⟨m, b, _, rfl, hfit, .inr ⟨ws, h2, ?_⟩, back⟩
            have := rz.keys
            have e1 : (kvs.map fun p => keyT p.1) = (kvs.map (·.1)).map keyT := by rw [List.map_map]; rfl
            have e2 : (ws.map fun p => keyT p.1) = (ws.map (·.1)).map keyT := by rw [List.map_map]; rfl
            rw [e1, e2, this]
          · cases hx
        · cases hx
          obtain ⟨b, zs, rfl, t1, ra⟩ := a.getL sr rfl
          exact ⟨m, b, _, rfl, hfit, .inl ⟨zs, hK ▸ t1.sq, ra⟩, back⟩
        · cases hx
    · exact hf.elim
  · exact hf.elim
end
end Dx

set_option Elab.async false
set_option linter.all false
set_option maxRecDepth 100000
set_option maxHeartbeats 4000000
/-! DX: sorted(set(e)), e a list of pairs of ints from 0 to 63. -/
namespace Dx
open PySem PySem.Spec PyProof.Rows L2
def pairD (x y : Int) : D := .tup [.int x, .int y]
def pairsOk (ds : List D) : Prop := ds.length < 64 ∧ ∀ d ∈ ds, ∃ x y : Int, d = pairD x y ∧ (0 ≤ x ∧ x < 64) ∧ 0 ≤ y ∧ y < 64
def ssetF (d : D) : F := fun _ S Q _ => match getS S d with
  | .lst ds => pairsOk ds ∧ ∀ es : List D, (∀ x, x ∈ es ↔ x ∈ ds) → es.Pairwise (fun x y => ltD x y = true) → Q (.lst es) S
  | _ => False
section
variable {G : Gr} {m : Mp} {H : Hp}
theorem pairs_rep (K : PySem.W.Frag) (hK : K = G.K) : ∀ {ds : List D} {xs : List V}, RepAll G m H xs ds → (∀ d ∈ ds, ∃ x y : Int, d = pairD x y ∧ (0 ≤ x ∧ x < 64) ∧ 0 ≤ y ∧ y < 64) →
    ∃ ks : List (Addr × List Int), xs = ks.map (fun p => V.ref p.1) ∧ (∀ p ∈ ks, SqT K H p.1 (p.2.map V.int)) ∧ ks.map (fun p => D.tup (p.2.map .int)) = ds
  | [], _, .nil, _ => ⟨[], rfl, fun p h => absurd h (by simp), rfl⟩
  | d :: ds, _, .cons a r, h => by
    obtain ⟨x, y, e, _⟩ := h d List.mem_cons_self
    obtain ⟨ks, h1, h2, h3⟩ := pairs_rep K hK r fun e he => h e (List.mem_cons_of_mem _ he)
    subst e
    obtain ⟨t, vs, rfl, t1, ra⟩ := a.getT rfl
    have ev : vs = [V.int x, V.int y] := by
      cases ra with
      | cons a1 r1 => cases r1 with
        | cons a2 r2 => cases r2; cases a1; cases a2; rfl
    subst ev
    refine ⟨(t, [x, y]) :: ks, by simp [h1], fun p hp => ?_, by simp [h3, pairD]⟩
    rcases List.mem_cons.mp hp with rfl | hp
    · exact hK ▸ t1
    · exact h2 p hp
theorem keys_rep (K : PySem.W.Frag) (hK : K = G.K) : ∀ {ks : List (Addr × List Int)}, (∀ p ∈ ks, SqT K H p.1 (p.2.map V.int)) → RepAll G m H (ks.map fun p => V.ref p.1) (ks.map fun p => D.tup (p.2.map .int))
  | [], _ => .nil
  | p :: ks, h => by
    refine .cons (.tup (hK ▸ h p List.mem_cons_self) ?_) (keys_rep K hK fun q hq => h q (List.mem_cons_of_mem _ hq))
    generalize p.2 = l
    induction l with
    | nil => exact .nil
    | cons i l ih => exact .cons (.int i) ih
theorem pair_ltD {x y x' y' : Int} (h : x < x' ∨ (x = x' ∧ y < y')) : ltD (pairD x y) (pairD x' y') = true := by
  simp only [pairD, ltD, ltDs, eqD]
  rcases h with h | ⟨rfl, h⟩
  · have : (x == x') = false := by simp; omega
    simp [this, h]
  · have : (y == y') = false := by simp; omega
    simp [this, h]
variable {X : Cx} {W : WX} {e : Expr} {fe : F} {p p2 q pos : Pos}
theorem e_sortSet (hK : X.K = G.K) (hc : X.calm = true) (hu : X.A.units + 64 < cLine) (hg : Gl X "sorted") (hm : X.mg "sorted" = none) (hg2 : Gl X "set") (hm2 : X.mg "set" = none) (he : PE X e (tE G W fe))
    (hs : starEach [e] X.env = [(false, eval e X.env)]) (hs2 : starEach [.Call (.Name "set" p2) [e] [] q] X.env = [(false, eval (.Call (.Name "set" p2) [e] [] q) X.env)]) :
    PE X (.Call (.Name "sorted" p) [.Call (.Name "set" p2) [e] [] q] [] pos) (tE G W (bindF fe ssetF)) := by
  have h1 := pe_callTy (p := p2) (pos := q) (cr_setOfT hc hu) hg2 hm2 (by kernel_rfl) (pa_cons he pa_nil (by rw [hs]; rfl)) (by decide) (by decide) (by rw [hs]; rfl) (by rfl)
  have h2 := pe_callB (p := p) (pos := pos) (cr_sortedT hc) hg hm (by kernel_rfl) (pa_cons h1 pa_nil (by rw [hs2]; rfl)) (by decide) (by decide) (by rw [hs2]; rfl) (by rfl)
  refine PE.imp h2 fun σ H Q ⟨τ, m, S, h⟩ => ⟨τ, m, S, h.seq fun m1 S1 H1 v d e1 sr1 r1 h1 => ?_⟩
  obtain ⟨QD, QE, sr, er, hf, k, px⟩ := h1
  unfold ssetF at hf
  split at hf
  · rename_i ds hd
    obtain ⟨⟨hlen, hp⟩, hf⟩ := hf
    obtain ⟨a, xs, rfl, t1, ra⟩ := r1.getL sr hd
    obtain ⟨ks, rfl, hks, hds⟩ := pairs_rep (G := G) X.K hK ra hp
    have bd : ∀ p ∈ ks, ∃ x y : Int, p.2 = [x, y] ∧ (0 ≤ x ∧ x < 64) ∧ 0 ≤ y ∧ y < 64 := fun p hpm => by
      have hm : D.tup (p.2.map .int) ∈ ds := by rw [← hds]; exact List.mem_map.mpr ⟨p, hpm, rfl⟩
      obtain ⟨x, y, e, b⟩ := hp _ hm
      refine ⟨x, y, ?_, b⟩
      unfold pairD at e
      injection e with e
      match h : p.2, e with
      | [u, v], e => simp at e; rw [e.1, e.2]
    refine ⟨a, ks, rfl, hK ▸ t1.sq, hks, by rw [← hds, List.length_map] at hlen; exact hlen, fun b L hb hL1 hL2 => ?_⟩
    have e2 : Ext m1 H1 m1 (upd H1 b (SetTO X.prog X.w b L)) := Ext.upd sr hb
    have sr2 := sr.upd (o := SetTO X.prog X.w b L) hb
    have hks2 : ∀ p ∈ ks, SqT X.K (upd H1 b (SetTO X.prog X.w b L)) p.1 (p.2.map V.int) := fun p hpm => by
      rcases hks p hpm with z | z
      · exact .inl (e2.rd z (sr.notTup z) (fun ps z => by cases z))
      · exact .inr z
    refine ⟨b, L, 2, 64, rfl, upd_same, fun p hpm => hks2 p (hL1 p hpm), by decide, fun p hpm => ?_, fun L' c pm nd _ pw hc' => ?_⟩
    · obtain ⟨x, y, e, b1, b2⟩ := bd p (hL1 p hpm)
      rw [e]
      refine ⟨rfl, fun i hi => ?_⟩
      simp only [List.mem_cons, List.not_mem_nil, or_false] at hi
      rcases hi with rfl | rfl
      · exact b1
      · exact b2
    · have hL' : ∀ p ∈ L', p ∈ ks := fun p hpm => hL1 p (pm.mem_iff.mp hpm)
      refine At.newL (W := W) (mu := false) ⟨QD, QE, sr2, er.mono sr e2, ?_, k.mono e2, px.mono e2⟩ hc' (keys_rep (G := G) X.K hK fun p hpm => hks2 p (hL' p hpm))
      unfold Dx.newL
      rw [if_neg Bool.false_ne_true]
      refine hf _ (fun x => ⟨fun hx => ?_, fun hx => ?_⟩) ?_
      · obtain ⟨p, hpm, rfl⟩ := List.mem_map.mp hx
        rw [← hds]
        exact List.mem_map.mpr ⟨p, hL' p hpm, rfl⟩
      · rw [← hds] at hx
        obtain ⟨p, hpm, rfl⟩ := List.mem_map.mp hx
        obtain ⟨p', hp', e'⟩ := List.mem_map.mp (hL2 p hpm)
        exact List.mem_map.mpr ⟨p', pm.mem_iff.mpr hp', by rw [e']⟩
      · rw [List.pairwise_map]
        have nd' : L'.Pairwise fun p q => p.2 ≠ q.2 := List.pairwise_map.mp nd
        refine List.Pairwise.imp_of_mem (fun {p q} hp' hq' hpq => ?_) (pw.and nd')
        obtain ⟨x, y, e, b1, b2⟩ := bd p (hL' p hp')
        obtain ⟨x', y', e', b3, b4⟩ := bd q (hL' q hq')
        rw [e, e'] at hpq ⊢
        exact pair_ltD (pair_lt hpq.1 hpq.2 b1 b2 b3 b4)
  · exact hf.elim
end
end Dx

set_option Elab.async false
set_option linter.all false
set_option maxRecDepth 100000
set_option maxHeartbeats 4000000
/-! DX: rules for the generator: zip, < of tuples, dicts, sorted. -/
namespace Dx
open PySem PySem.Spec PyProof.Rows L2
section
variable {G : Gr} {X : Cx} {W : WX} {e o i a b value : Expr} {es elts : List Expr} {pos sp tp p p2 q tpos : Pos} {fe fo fi fv : F} {fl fk : FG (List D)} {x1 kk : Nat} {x : Str}
theorem Room.u150 {k : Nat} {A : Around} (r : Room k A) : A.units + 150 < cLine := by have := r.un; omega
theorem Room.u130 {k : Nat} {A : Around} (r : Room k A) : A.units + 130 < cLine := by have := r.un; omega
theorem Room.u1 {k : Nat} {A : Around} (r : Room k A) : A.units + 1 < cLine := by have := r.un; omega
theorem oltt {k : Nat} (hr : Room k X.A) (hK : X.K = G.K := by rfl) : OpF G X (compareOp .Lt) lttG := opd_ltt (n := 0) hK (Room.u130 hr)
theorem izip (hm : G.mg "zip" = none) (ha : PA X [a, b] (tA G W fl)) (hK : X.K = G.K := by rfl) (hM : X.mg = G.mg := by rfl) (hg : Gl X "zip" := by unfold Gl; kernel_rfl) (hs : starEach [a, b] X.env = (false, eval a X.env) :: starEach [b] X.env := by kernel_rfl) (hpl : (backTo pos (starEach [b] X.env)).any (·.1) = false := by kernel_rfl) :
    PI X (.Tuple elts kk tpos) (.Call (.Name "zip" p) [a, b] [] pos) (tI G W (bindF fl zipI)) := i_zip hK hg (by rw [hM]; exact hm) ha hs hpl
theorem xdnew : PE X (.Dict [] [] pos) (tE G W dnewF) := e_dnew
theorem sdput {k : Nat} (hr : Room k X.A) (hv : PE X value (tE G W fv)) (ho : PE X o (tE G W fo)) (hk : PA X es (tA G W fk)) (hs : swapsWith value (some (.Subscript o (.Tuple es x1 tp) sp)) pos.line X.env = pure false := by kernel_rfl) :
    PS X (.Assign [.Subscript o (.Tuple es x1 tp) sp] value pos) (tS G W (dputS fv fo fk)) := s_dput (Room.u1 hr) hv ho hk hs
def dgetE (fo fi : F) : F := bindF fo fun o => bindF fi fun i => dgetF o i
theorem xdget {k : Nat} (hr : Room k X.A) (ho : PE X o (tE G W fo)) (hi : PE X i (tE G W fi)) (hK : X.K = G.K := by rfl) (hs : NoSl i := by intro ov iv; kernel_rfl) : PE X (.Subscript o i pos) (tE G W (dgetE fo fi)) := e_dget hK (Room.u1 hr) ho hi hs
theorem bsort {k : Nat} (hr : Room k X.A) (mu : Bool) (hK : X.K = G.K := by rfl) (hc : X.calm = true := by rfl) : BF G X (.builtin "sorted") (sortB mu) := bf_sort hK hc (Room.u150 hr) mu
def ssetE (fe : F) : F := bindF fe ssetF
theorem xsset {k : Nat} (hr : Room k X.A) (hm : G.mg "sorted" = none) (hm2 : G.mg "set" = none) (he : PE X e (tE G W fe)) (hK : X.K = G.K := by rfl) (hM : X.mg = G.mg := by rfl) (hc : X.calm = true := by rfl) (hg : Gl X "sorted" := by unfold Gl; kernel_rfl) (hg2 : Gl X "set" := by unfold Gl; kernel_rfl)
    (hs : starEach [e] X.env = [(false, eval e X.env)] := by kernel_rfl) (hs2 : starEach [.Call (.Name "set" p2) [e] [] q] X.env = [(false, eval (.Call (.Name "set" p2) [e] [] q) X.env)] := by kernel_rfl) :
    PE X (.Call (.Name "sorted" p) [.Call (.Name "set" p2) [e] [] q] [] pos) (tE G W (ssetE fe)) := e_sortSet hK hc (Room.u64 hr) hg (by rw [hM]; exact hm) hg2 (by rw [hM]; exact hm2) he hs hs2
theorem spar3 {x y z : Str} {a b c : Expr} {px py pz pt : Pos} {kt k2 pt2} (i j l : Nat) (nd : X.N.Nodup) (ha : PA X [a, b, c] (tA G W fl)) (hc : X.calm = true := by rfl) (hi : X.N[i]? = some x := by kernel_rfl) (hj : X.N[j]? = some y := by kernel_rfl) (hl : X.N[l]? = some z := by kernel_rfl) (hij : i ≠ j := by decide) (hil : i ≠ l := by decide) (hjl : j ≠ l := by decide)
    (hx : X.env.scope.names.lookup x = some .local := by kernel_rfl) (hy : X.env.scope.names.lookup y = some .local := by kernel_rfl) (hz : X.env.scope.names.lookup z = some .local := by kernel_rfl)
    (hw : swappedStores [.Tuple [.Name x px, .Name y py, .Name z pz] kt pt] (.Tuple [a, b, c] k2 pt2) X.env = pure (some [x, y, z]) := by kernel_rfl)
    (hs : swapsWithSole [.Tuple [.Name x px, .Name y py, .Name z pz] kt pt] (.Tuple [a, b, c] k2 pt2) pos.line X.env = pure false := by kernel_rfl) :
    PS X (.Assign [.Tuple [.Name x px, .Name y py, .Name z pz] kt pt] (.Tuple [a, b, c] k2 pt2) pos) (tS G W (par3S i j l fl)) := s_par3 hc nd hi hj hl hij hil hjl hx hy hz ha hw hs
end
end Dx

set_option Elab.async false
set_option linter.all false
set_option maxRecDepth 100000
set_option maxHeartbeats 0
namespace LawX
open PySem PySem.Spec PyProof.Rows L2 Dx
def top (i : Nat) : Stmt := PySem.Challenge.pw_nearplain_k62_values_on_surfaces.main.body.getD i (.Pass ⟨0, 0, 0, 0⟩)

abbrev st_law_cup : Stmt := top 51
abbrev N_law_cup : List Str := ["script", "cell"]
abbrev P_law_cup : List Str := ["script"]
theorem sc_law_cup : FnScope N_law_cup P_law_cup (defScope st_law_cup) := ⟨by kernel_rfl, by kernel_rfl, by kernel_rfl, by decide +kernel, by kernel_rfl, by decide +kernel, by decide +kernel⟩
def fs_law_cup : FS :=
  (seqS (setS 1 (biE absB (consF (idxE (binE (addF false) (biE (lstB false) (consF (varF 0) nilF)) (lstE false (consF (int! 0) nilF))) (int! 0)) nilF)))
    (retS (lstE true (consF (iteV (cmpT geG (varF 1) (binE powG (int! 10) (int! 18))) (binE fdivG (varF 1) (int! 83)) (int! 0)) (consF (binE (addF false) (binE modG (biE intB (consF (binE (addF false) (binE (mulF false) (varF 1) (int! 307)) (int! 2707)) nilF)) (int! 2077503121)) (int! 181)) nilF)))))
theorem body_law_cup {P : Program} {w : World} {G : Gr} {base : Heap} {f : Addr} {cdv : Value} {A : Around} {outer : List PySem.Env} {s : Shared} {H : Hp} {E : XK} {k  : Nat}  (b_list : G.mg "list" = none) (b_abs : G.mg "abs" = none) (b_int : G.mg "int" = none)  
    (hr : Room k (FX P w G base N_law_cup "_law_cup" st_law_cup f (cdv) A outer s H E).A) : PSs (FX P w G base N_law_cup "_law_cup" st_law_cup f (cdv) A outer s H E) (defBody st_law_cup) (tS G (WEx E) (fs_law_cup )) := by
  exact (ss_cons (sset 1 sc_law_cup.nd (xcB bf_abs b_abs (xcons (xix (xbin (oadd false) (xcT (bf_lst rfl false) b_list (xcons (xv 0) xnil)) (xlst false (xcons xi xnil))) xi) xnil)))
    (ss_one (s_ret (xlst true (xcons (xife (tcmp oge bl_ge (xv 1) (xbin opow xi xi)) (xbin ofdiv (xv 1) xi) xi) (xcons (xbin (oadd false) (xbin omod (xcT bf_int b_int (xcons (xbin (oadd false) (xbin (omul false) (xv 1) xi) xi) xnil)) xi) xi) xnil))))))
abbrev stis_ascending : Stmt := top 12
abbrev Nis_ascending : List Str := ["values", "one", "other"]
abbrev Pis_ascending : List Str := ["values"]
theorem scis_ascending : FnScope Nis_ascending Pis_ascending (defScope stis_ascending) := ⟨by kernel_rfl, by kernel_rfl, by kernel_rfl, by decide +kernel, by kernel_rfl, by decide +kernel, by decide +kernel⟩
def fsis_ascending : FS :=
  (retS (biE allB (consF (compF false (bindF (consF (varF 0) (consF (slcE false (varF 0) (someI (int! 1)) noF) nilF)) zipI) (.tup [(.name 1), (.name 2)]) (retF true) (binE lttG (varF 1) (varF 2)) ([("one", 1), ("other", 2)].map (·.2))) nilF)))
theorem bodyis_ascending {P : Program} {w : World} {G : Gr} {base : Heap} {f : Addr} {cdv : Value} {A : Around} {outer : List PySem.Env} {s : Shared} {H : Hp} {E : XK} {k  : Nat}  (b_zip : G.mg "zip" = none) (b_all : G.mg "all" = none)  
    (hr : Room k (FX P w G base Nis_ascending "is_ascending" stis_ascending f (cdv) A outer s H E).A) : PSs (FX P w G base Nis_ascending "is_ascending" stis_ascending f (cdv) A outer s H E) (defBody stis_ascending) (tS G (WEx E) (fsis_ascending )) := by
  exact (ss_one (s_ret (xcB (bf_all rfl rfl) b_all (xcons (xlc false [("one", 1), ("other", 2)] scis_ascending.nd (izip b_zip (xcons (xv 0) (xcons (xsl false (xv 0) (os xi) on) xnil))) (gtupF (gconsF (gnameF 1 (fun _ => scis_ascending.nd)) (gconsF (gnameF 2 (fun _ => scis_ascending.nd)) gnilF))) (fun _ => ts_nil) (fun _ => (xcmp (oltt hr) (xv 1) (xv 2)))) xnil))))
abbrev stis_tuple_of : Stmt := top 11
abbrev Nis_tuple_of : List Str := ["value", "low", "high"]
abbrev Pis_tuple_of : List Str := ["value", "low", "high"]
theorem scis_tuple_of : FnScope Nis_tuple_of Pis_tuple_of (defScope stis_tuple_of) := ⟨by kernel_rfl, by kernel_rfl, by kernel_rfl, by decide +kernel, by kernel_rfl, by decide +kernel, by decide +kernel⟩
def fsis_tuple_of : FS :=
  (retS (andV (biE isiB (consF (varF 0) (consF (ty! "tuple") nilF))) (chF leG leG (varF 1) (biE lenB (consF (varF 0) nilF)) (varF 2))))
theorem bodyis_tuple_of {P : Program} {w : World} {G : Gr} {base : Heap} {f : Addr} {cdv : Value} {A : Around} {outer : List PySem.Env} {s : Shared} {H : Hp} {E : XK} {k  : Nat}  (b_tuple : G.mg "tuple" = none) (b_isinstance : G.mg "isinstance" = none) (b_len : G.mg "len" = none)  
    (hr : Room k (FX P w G base Nis_tuple_of "is_tuple_of" stis_tuple_of f (cdv) A outer s H E).A) : PSs (FX P w G base Nis_tuple_of "is_tuple_of" stis_tuple_of f (cdv) A outer s H E) (defBody stis_tuple_of) (tS G (WEx E) (fsis_tuple_of )) := by
  exact (ss_one (s_ret (xand (xcB (bf_isi rfl) b_isinstance (xcons (xv 0) (xcons (xty b_tuple) xnil))) (xone (xch ole ole (xv 1) (xcB (bf_len rfl) b_len (xcons (xv 0) xnil)) (xv 2))))))
abbrev stis_whole : Stmt := top 9
abbrev Nis_whole : List Str := ["value", "low", "high"]
abbrev Pis_whole : List Str := ["value", "low", "high"]
theorem scis_whole : FnScope Nis_whole Pis_whole (defScope stis_whole) := ⟨by kernel_rfl, by kernel_rfl, by kernel_rfl, by decide +kernel, by kernel_rfl, by decide +kernel, by decide +kernel⟩
def fsis_whole : FS :=
  (retS (andV (biE isiB (consF (varF 0) (consF (ty! "int") nilF))) (andV (notV (biE isiB (consF (varF 0) (consF (ty! "bool") nilF)))) (chF leG leG (varF 1) (varF 0) (varF 2)))))
theorem bodyis_whole {P : Program} {w : World} {G : Gr} {base : Heap} {f : Addr} {cdv : Value} {A : Around} {outer : List PySem.Env} {s : Shared} {H : Hp} {E : XK} {k  : Nat}  (b_int : G.mg "int" = none) (b_isinstance : G.mg "isinstance" = none) (b_bool : G.mg "bool" = none)  
    (hr : Room k (FX P w G base Nis_whole "is_whole" stis_whole f (cdv) A outer s H E).A) : PSs (FX P w G base Nis_whole "is_whole" stis_whole f (cdv) A outer s H E) (defBody stis_whole) (tS G (WEx E) (fsis_whole )) := by
  exact (ss_one (s_ret (xand (xcB (bf_isi rfl) b_isinstance (xcons (xv 0) (xcons (xty b_int) xnil))) (xand (xnot (xcB (bf_isi rfl) b_isinstance (xcons (xv 0) (xcons (xty b_bool) xnil)))) (xone (xch ole ole (xv 1) (xv 0) (xv 2)))))))
abbrev stfits_term : Stmt := top 26
abbrev Nfits_term : List Str := ["value", "own"]
abbrev Pfits_term : List Str := ["value"]
theorem scfits_term : FnScope Nfits_term Pfits_term (defScope stfits_term) := ⟨by kernel_rfl, by kernel_rfl, by kernel_rfl, by decide +kernel, by kernel_rfl, by decide +kernel, by decide +kernel⟩
def fsfits_term (cis_tuple_of cis_whole : Ct) : FS :=
  (seqS (ifS (orF (notF (truT (callE cis_tuple_of (consF (varF 0) (consF (int! 2) (consF (int! 2) nilF)))))) (notF (truT (callE cis_tuple_of (consF (idxE (varF 0) (int! 0)) (consF (int! 2) (consF (int! 2) nilF))))))) (retS (bl! false)) nilS)
    (seqS (ifS (orF (notF (truT (biE allB (consF (compF false (itE (idxE (varF 0) (int! 0))) (.name 1) (retF true) (callE cis_whole (consF (varF 1) (consF (int! 0) (consF (int! 4) nilF)))) ([("own", 1)].map (·.2))) nilF)))) (cmpT gtG (binE (addF false) (idxE (idxE (varF 0) (int! 0)) (int! 0)) (idxE (idxE (varF 0) (int! 0)) (int! 1))) (int! 4))) (retS (bl! false)) nilS)
    (retS (andV (callE cis_whole (consF (idxE (varF 0) (int! 1)) (consF (negE (int! 1000000)) (consF (int! 1000000) nilF)))) (binE neG (idxE (varF 0) (int! 1)) (int! 0))))))
theorem bodyfits_term {P : Program} {w : World} {G : Gr} {base : Heap} {f : Addr} {cdv : Value} {A : Around} {outer : List PySem.Env} {s : Shared} {H : Hp} {E : XK} {k kis_tuple_of kis_whole : Nat} {cis_tuple_of cis_whole : Ct} (n_POWER : ∃ t, G.mg "POWER" = some (.int 4 t)) (b_all : G.mg "all" = none) (n_COEFFICIENT_lines : ∃ t, G.mg "COEFFICIENT_lines" = some (.int 1000000 t)) (his_tuple_of : Has P w G base "is_tuple_of" Pis_tuple_of kis_tuple_of cis_tuple_of) (sis_tuple_of : Ct.sized cis_tuple_of Pis_tuple_of.length) (lis_tuple_of : kis_tuple_of ≤ k) (his_whole : Has P w G base "is_whole" Pis_whole kis_whole cis_whole) (sis_whole : Ct.sized cis_whole Pis_whole.length) (lis_whole : kis_whole ≤ k) 
    (hr : Room k (FX P w G base Nfits_term "fits_term" stfits_term f (cdv) A outer s H E).A) : PSs (FX P w G base Nfits_term "fits_term" stfits_term f (cdv) A outer s H E) (defBody stfits_term) (tS G (WEx E) (fsfits_term cis_tuple_of cis_whole)) := by
  exact (ss_cons (s_if (PW.pt (wo (tnot (tt (xfn his_tuple_of sis_tuple_of hr (by omega) tkF (xcons (xv 0) (xcons xi (xcons xi xnil)))))) (wo1 (tnot (tt (xfn his_tuple_of sis_tuple_of hr (by omega) tkF (xcons (xix (xv 0) xi) (xcons xi (xcons xi xnil))))))))) (ss_one (s_ret xb)) ss_nil)
    (ss_cons (s_if (PW.pt (wo (tnot (tt (xcB (bf_all rfl rfl) b_all (xcons (xlc false [("own", 1)] scfits_term.nd (ival (xix (xv 0) xi)) (gnameF 1 (fun _ => scfits_term.nd)) (fun _ => ts_nil) (fun _ => (xfn his_whole sis_whole hr (by omega) LamX.takes0 (xcons (xv 1) (xcons xi (xcons (xg n_POWER) xnil)))))) xnil)))) (wo1 (tcmp ogt bl_gt (xbin (oadd false) (xix (xix (xv 0) xi) xi) (xix (xix (xv 0) xi) xi)) (xg n_POWER))))) (ss_one (s_ret xb)) ss_nil)
    (ss_one (s_ret (xand (xfn his_whole sis_whole hr (by omega) tkF (xcons (xix (xv 0) xi) (xcons (xneg (xg n_COEFFICIENT_lines)) (xcons (xg n_COEFFICIENT_lines) xnil)))) (xone (xcmp (one' hr) (xix (xv 0) xi) xi)))))))
abbrev stfits_surface : Stmt := top 27
abbrev Nfits_surface : List Str := ["value", "own"]
abbrev Pfits_surface : List Str := ["value"]
theorem scfits_surface : FnScope Nfits_surface Pfits_surface (defScope stfits_surface) := ⟨by kernel_rfl, by kernel_rfl, by kernel_rfl, by decide +kernel, by kernel_rfl, by decide +kernel, by decide +kernel⟩
def fsfits_surface (cis_tuple_of cfits_term cis_ascending : Ct) : FS :=
  (seqS (ifS (orF (notF (truT (callE cis_tuple_of (consF (varF 0) (consF (int! 0) (consF (int! 15) nilF)))))) (notF (truT (biE allB (consF (compF false (itE (varF 0)) (.name 1) (retF true) (callE cfits_term (consF (varF 1) nilF)) ([("own", 1)].map (·.2))) nilF))))) (retS (bl! false)) nilS)
    (retS (callE cis_ascending (consF (biE tupB (consF (compF false (itE (varF 0)) (.name 1) (retF true) (idxE (varF 1) (int! 0)) ([("own", 1)].map (·.2))) nilF)) nilF))))
theorem bodyfits_surface {P : Program} {w : World} {G : Gr} {base : Heap} {f : Addr} {cdv : Value} {A : Around} {outer : List PySem.Env} {s : Shared} {H : Hp} {E : XK} {k kis_tuple_of kfits_term kis_ascending : Nat} {cis_tuple_of cfits_term cis_ascending : Ct} (n_TERMS : ∃ t, G.mg "TERMS" = some (.int 15 t)) (b_all : G.mg "all" = none) (b_tuple : G.mg "tuple" = none) (his_tuple_of : Has P w G base "is_tuple_of" Pis_tuple_of kis_tuple_of cis_tuple_of) (sis_tuple_of : Ct.sized cis_tuple_of Pis_tuple_of.length) (lis_tuple_of : kis_tuple_of ≤ k) (hfits_term : Has P w G base "fits_term" Pfits_term kfits_term cfits_term) (sfits_term : Ct.sized cfits_term Pfits_term.length) (lfits_term : kfits_term ≤ k) (his_ascending : Has P w G base "is_ascending" Pis_ascending kis_ascending cis_ascending) (sis_ascending : Ct.sized cis_ascending Pis_ascending.length) (lis_ascending : kis_ascending ≤ k) 
    (hr : Room k (FX P w G base Nfits_surface "fits_surface" stfits_surface f (cdv) A outer s H E).A) : PSs (FX P w G base Nfits_surface "fits_surface" stfits_surface f (cdv) A outer s H E) (defBody stfits_surface) (tS G (WEx E) (fsfits_surface cis_tuple_of cfits_term cis_ascending)) := by
  exact (ss_cons (s_if (PW.pt (wo (tnot (tt (xfn his_tuple_of sis_tuple_of hr (by omega) tkF (xcons (xv 0) (xcons xi (xcons (xg n_TERMS) xnil)))))) (wo1 (tnot (tt (xcB (bf_all rfl rfl) b_all (xcons (xlc false [("own", 1)] scfits_surface.nd (ival (xv 0)) (gnameF 1 (fun _ => scfits_surface.nd)) (fun _ => ts_nil) (fun _ => (xfn hfits_term sfits_term hr (by omega) LamX.takes0 (xcons (xv 1) xnil)))) xnil))))))) (ss_one (s_ret xb)) ss_nil)
    (ss_one (s_ret (xfn his_ascending sis_ascending hr (by omega) tkF (xcons (xcT (bf_tup rfl) b_tuple (xcons (xlc false [("own", 1)] scfits_surface.nd (ival (xv 0)) (gnameF 1 (fun _ => scfits_surface.nd)) (fun _ => ts_nil) (fun _ => (xix (xv 1) xi))) xnil)) xnil)))))
abbrev stneed_surface : Stmt := top 28
abbrev Nneed_surface : List Str := ["value"]
abbrev Pneed_surface : List Str := ["value"]
theorem scneed_surface : FnScope Nneed_surface Pneed_surface (defScope stneed_surface) := ⟨by kernel_rfl, by kernel_rfl, by kernel_rfl, by decide +kernel, by kernel_rfl, by decide +kernel, by decide +kernel⟩
def fsneed_surface (cfits_surface : Ct) : FS :=
  (ifS (notF (truT (callE cfits_surface (consF (varF 0) nilF)))) (raiseS "InvalidSurface") nilS)
theorem bodyneed_surface {P : Program} {w : World} {G : Gr} {base : Heap} {f : Addr} {cdv : Value} {A : Around} {outer : List PySem.Env} {s : Shared} {H : Hp} {E : XK} {k kfits_surface : Nat} {cfits_surface : Ct} (x_InvalidSurface : ExcK G "InvalidSurface") (hfits_surface : Has P w G base "fits_surface" Pfits_surface kfits_surface cfits_surface) (sfits_surface : Ct.sized cfits_surface Pfits_surface.length) (lfits_surface : kfits_surface ≤ k) 
    (hr : Room k (FX P w G base Nneed_surface "need_surface" stneed_surface f (cdv) A outer s H E).A) : PSs (FX P w G base Nneed_surface "need_surface" stneed_surface f (cdv) A outer s H E) (defBody stneed_surface) (tS G (WEx E) (fsneed_surface cfits_surface)) := by
  exact (ss_one (s_if (tnot (tt (xfn hfits_surface sfits_surface hr (by omega) tkF (xcons (xv 0) xnil)))) (ss_one (sraise x_InvalidSurface tkF)) ss_nil))
abbrev stturned_in : Stmt := top 42
abbrev Nturned_in : List Str := ["surface", "i", "j", "own"]
abbrev Pturned_in : List Str := ["surface"]
theorem scturned_in : FnScope Nturned_in Pturned_in (defScope stturned_in) := ⟨by kernel_rfl, by kernel_rfl, by kernel_rfl, by decide +kernel, by kernel_rfl, by decide +kernel, by decide +kernel⟩
def fsturned_in : FS :=
  (retS (biE tupB (consF (biE (sortB false) (consF (compF false (itE (varF 0)) (.tup [(.tup [(.name 1), (.name 2)]), (.name 3)]) (retF true) (tupE (consF (tupE (consF (varF 2) (consF (varF 1) nilF))) (consF (varF 3) nilF))) ([("own", 3), ("i", 1), ("j", 2)].map (·.2))) nilF)) nilF)))
theorem bodyturned_in {P : Program} {w : World} {G : Gr} {base : Heap} {f : Addr} {cdv : Value} {A : Around} {outer : List PySem.Env} {s : Shared} {H : Hp} {E : XK} {k  : Nat}  (b_sorted : G.mg "sorted" = none) (b_tuple : G.mg "tuple" = none)  
    (hr : Room k (FX P w G base Nturned_in "turned_in" stturned_in f (cdv) A outer s H E).A) : PSs (FX P w G base Nturned_in "turned_in" stturned_in f (cdv) A outer s H E) (defBody stturned_in) (tS G (WEx E) (fsturned_in )) := by
  exact (ss_one (s_ret (xcT (bf_tup rfl) b_tuple (xcons (xcB (bsort hr false) b_sorted (xcons (xlc false [("own", 3), ("i", 1), ("j", 2)] scturned_in.nd (ival (xv 0)) (gtupF (gconsF (gtupF (gconsF (gnameF 1 (fun _ => scturned_in.nd)) (gconsF (gnameF 2 (fun _ => scturned_in.nd)) gnilF))) (gconsF (gnameF 3 (fun _ => scturned_in.nd)) gnilF))) (fun _ => ts_nil) (fun _ => (xtup (xcons (xtup (xcons (xv 2) (xcons (xv 1) xnil))) (xcons (xv 3) xnil))))) xnil)) xnil))))
abbrev stturned : Stmt := top 49
abbrev Nturned : List Str := ["surface"]
abbrev Pturned : List Str := ["surface"]
theorem scturned : FnScope Nturned Pturned (defScope stturned) := ⟨by kernel_rfl, by kernel_rfl, by kernel_rfl, by decide +kernel, by kernel_rfl, by decide +kernel, by decide +kernel⟩
def fsturned (cneed_surface cturned_in : Ct) : FS :=
  (seqS (exprS (callE cneed_surface (consF (varF 0) nilF)))
    (retS (callE cturned_in (consF (varF 0) nilF))))
theorem bodyturned {P : Program} {w : World} {G : Gr} {base : Heap} {f : Addr} {cdv : Value} {A : Around} {outer : List PySem.Env} {s : Shared} {H : Hp} {E : XK} {k kneed_surface kturned_in : Nat} {cneed_surface cturned_in : Ct}  (hneed_surface : Has P w G base "need_surface" Pneed_surface kneed_surface cneed_surface) (sneed_surface : Ct.sized cneed_surface Pneed_surface.length) (lneed_surface : kneed_surface ≤ k) (hturned_in : Has P w G base "turned_in" Pturned_in kturned_in cturned_in) (sturned_in : Ct.sized cturned_in Pturned_in.length) (lturned_in : kturned_in ≤ k) 
    (hr : Room k (FX P w G base Nturned "turned" stturned f (cdv) A outer s H E).A) : PSs (FX P w G base Nturned "turned" stturned f (cdv) A outer s H E) (defBody stturned) (tS G (WEx E) (fsturned cneed_surface cturned_in)) := by
  exact (ss_cons (sexpr (xfn hneed_surface sneed_surface hr (by omega) tkF (xcons (xv 0) xnil)))
    (ss_one (s_ret (xfn hturned_in sturned_in hr (by omega) tkF (xcons (xv 0) xnil)))))
abbrev stis_integer : Stmt := top 10
abbrev Nis_integer : List Str := ["value"]
abbrev Pis_integer : List Str := ["value"]
theorem scis_integer : FnScope Nis_integer Pis_integer (defScope stis_integer) := ⟨by kernel_rfl, by kernel_rfl, by kernel_rfl, by decide +kernel, by kernel_rfl, by decide +kernel, by decide +kernel⟩
def fsis_integer : FS :=
  (retS (andV (biE isiB (consF (varF 0) (consF (ty! "int") nilF))) (notV (biE isiB (consF (varF 0) (consF (ty! "bool") nilF))))))
theorem bodyis_integer {P : Program} {w : World} {G : Gr} {base : Heap} {f : Addr} {cdv : Value} {A : Around} {outer : List PySem.Env} {s : Shared} {H : Hp} {E : XK} {k  : Nat}  (b_int : G.mg "int" = none) (b_isinstance : G.mg "isinstance" = none) (b_bool : G.mg "bool" = none)  
    (hr : Room k (FX P w G base Nis_integer "is_integer" stis_integer f (cdv) A outer s H E).A) : PSs (FX P w G base Nis_integer "is_integer" stis_integer f (cdv) A outer s H E) (defBody stis_integer) (tS G (WEx E) (fsis_integer )) := by
  exact (ss_one (s_ret (xand (xcB (bf_isi rfl) b_isinstance (xcons (xv 0) (xcons (xty b_int) xnil))) (xone (xnot (xcB (bf_isi rfl) b_isinstance (xcons (xv 0) (xcons (xty b_bool) xnil))))))))
abbrev stfits_any : Stmt := top 17
abbrev Nfits_any : List Str := ["value"]
abbrev Pfits_any : List Str := ["value"]
theorem scfits_any : FnScope Nfits_any Pfits_any (defScope stfits_any) := ⟨by kernel_rfl, by kernel_rfl, by kernel_rfl, by decide +kernel, by kernel_rfl, by decide +kernel, by decide +kernel⟩
def fsfits_any (cis_tuple_of cis_integer : Ct) : FS :=
  (seqS (ifS (orF (notF (truT (callE cis_tuple_of (consF (varF 0) (consF (int! 2) (consF (int! 2) nilF)))))) (orF (notF (truT (callE cis_integer (consF (idxE (varF 0) (int! 0)) nilF)))) (notF (truT (callE cis_integer (consF (idxE (varF 0) (int! 1)) nilF)))))) (retS (bl! false)) nilS)
    (retS (andV (binE gtG (idxE (varF 0) (int! 1)) (int! 0)) (binE eqG (biE gcdB (consF (idxE (varF 0) (int! 0)) (consF (idxE (varF 0) (int! 1)) nilF))) (int! 1)))))
theorem bodyfits_any {P : Program} {w : World} {G : Gr} {base : Heap} {f : Addr} {cdv : Value} {A : Around} {outer : List PySem.Env} {s : Shared} {H : Hp} {E : XK} {k kis_tuple_of kis_integer : Nat} {cis_tuple_of cis_integer : Ct} (f_gcd : G.mg "gcd" = some (.builtin "math.gcd")) (his_tuple_of : Has P w G base "is_tuple_of" Pis_tuple_of kis_tuple_of cis_tuple_of) (sis_tuple_of : Ct.sized cis_tuple_of Pis_tuple_of.length) (lis_tuple_of : kis_tuple_of ≤ k) (his_integer : Has P w G base "is_integer" Pis_integer kis_integer cis_integer) (sis_integer : Ct.sized cis_integer Pis_integer.length) (lis_integer : kis_integer ≤ k) 
    (hr : Room k (FX P w G base Nfits_any "fits_any" stfits_any f (cdv) A outer s H E).A) : PSs (FX P w G base Nfits_any "fits_any" stfits_any f (cdv) A outer s H E) (defBody stfits_any) (tS G (WEx E) (fsfits_any cis_tuple_of cis_integer)) := by
  exact (ss_cons (s_if (PW.pt (wo (tnot (tt (xfn his_tuple_of sis_tuple_of hr (by omega) tkF (xcons (xv 0) (xcons xi (xcons xi xnil)))))) (wo (tnot (tt (xfn his_integer sis_integer hr (by omega) tkF (xcons (xix (xv 0) xi) xnil)))) (wo1 (tnot (tt (xfn his_integer sis_integer hr (by omega) tkF (xcons (xix (xv 0) xi) xnil)))))))) (ss_one (s_ret xb)) ss_nil)
    (ss_one (s_ret (xand (xcmp ogt (xix (xv 0) xi) xi) (xone (xcmp (oeq hr) (xcF bf_gcd f_gcd (xcons (xix (xv 0) xi) (xcons (xix (xv 0) xi) xnil))) xi))))))
abbrev stfits_fraction : Stmt := top 18
abbrev Nfits_fraction : List Str := ["value"]
abbrev Pfits_fraction : List Str := ["value"]
theorem scfits_fraction : FnScope Nfits_fraction Pfits_fraction (defScope stfits_fraction) := ⟨by kernel_rfl, by kernel_rfl, by kernel_rfl, by decide +kernel, by kernel_rfl, by decide +kernel, by decide +kernel⟩
def fsfits_fraction (cfits_any : Ct) : FS :=
  (retS (andV (callE cfits_any (consF (varF 0) nilF)) (andV (binE leG (biE absB (consF (idxE (varF 0) (int! 0)) nilF)) (int! 1000000000000)) (binE leG (idxE (varF 0) (int! 1)) (int! 1000000000000)))))
theorem bodyfits_fraction {P : Program} {w : World} {G : Gr} {base : Heap} {f : Addr} {cdv : Value} {A : Around} {outer : List PySem.Env} {s : Shared} {H : Hp} {E : XK} {k kfits_any : Nat} {cfits_any : Ct} (b_abs : G.mg "abs" = none) (n_GREATEST : ∃ t, G.mg "GREATEST" = some (.int 1000000000000 t)) (hfits_any : Has P w G base "fits_any" Pfits_any kfits_any cfits_any) (sfits_any : Ct.sized cfits_any Pfits_any.length) (lfits_any : kfits_any ≤ k) 
    (hr : Room k (FX P w G base Nfits_fraction "fits_fraction" stfits_fraction f (cdv) A outer s H E).A) : PSs (FX P w G base Nfits_fraction "fits_fraction" stfits_fraction f (cdv) A outer s H E) (defBody stfits_fraction) (tS G (WEx E) (fsfits_fraction cfits_any)) := by
  exact (ss_one (s_ret (xand (xfn hfits_any sfits_any hr (by omega) tkF (xcons (xv 0) xnil)) (xand (xcmp ole (xcB bf_abs b_abs (xcons (xix (xv 0) xi) xnil)) (xg n_GREATEST)) (xone (xcmp ole (xix (xv 0) xi) (xg n_GREATEST)))))))
abbrev stneed_fraction : Stmt := top 21
abbrev Nneed_fraction : List Str := ["value"]
abbrev Pneed_fraction : List Str := ["value"]
theorem scneed_fraction : FnScope Nneed_fraction Pneed_fraction (defScope stneed_fraction) := ⟨by kernel_rfl, by kernel_rfl, by kernel_rfl, by decide +kernel, by kernel_rfl, by decide +kernel, by decide +kernel⟩
def fsneed_fraction (cfits_fraction : Ct) : FS :=
  (ifS (notF (truT (callE cfits_fraction (consF (varF 0) nilF)))) (raiseS "InvalidFraction") nilS)
theorem bodyneed_fraction {P : Program} {w : World} {G : Gr} {base : Heap} {f : Addr} {cdv : Value} {A : Around} {outer : List PySem.Env} {s : Shared} {H : Hp} {E : XK} {k kfits_fraction : Nat} {cfits_fraction : Ct} (x_InvalidFraction : ExcK G "InvalidFraction") (hfits_fraction : Has P w G base "fits_fraction" Pfits_fraction kfits_fraction cfits_fraction) (sfits_fraction : Ct.sized cfits_fraction Pfits_fraction.length) (lfits_fraction : kfits_fraction ≤ k) 
    (hr : Room k (FX P w G base Nneed_fraction "need_fraction" stneed_fraction f (cdv) A outer s H E).A) : PSs (FX P w G base Nneed_fraction "need_fraction" stneed_fraction f (cdv) A outer s H E) (defBody stneed_fraction) (tS G (WEx E) (fsneed_fraction cfits_fraction)) := by
  exact (ss_one (s_if (tnot (tt (xfn hfits_fraction sfits_fraction hr (by omega) tkF (xcons (xv 0) xnil)))) (ss_one (sraise x_InvalidFraction tkF)) ss_nil))
abbrev stmade : Stmt := top 16
abbrev Nmade : List Str := ["over", "under", "common"]
abbrev Pmade : List Str := ["over", "under"]
theorem scmade : FnScope Nmade Pmade (defScope stmade) := ⟨by kernel_rfl, by kernel_rfl, by kernel_rfl, by decide +kernel, by kernel_rfl, by decide +kernel, by decide +kernel⟩
def fsmade : FS :=
  (seqS (setS 2 (biE gcdB (consF (varF 0) (consF (varF 1) nilF))))
    (seqS (setS 2 (iteV (cmpT gtG (varF 1) (int! 0)) (varF 2) (negE (varF 2))))
    (retS (tupE (consF (binE fdivG (varF 0) (varF 2)) (consF (binE fdivG (varF 1) (varF 2)) nilF))))))
theorem bodymade {P : Program} {w : World} {G : Gr} {base : Heap} {f : Addr} {cdv : Value} {A : Around} {outer : List PySem.Env} {s : Shared} {H : Hp} {E : XK} {k  : Nat}  (f_gcd : G.mg "gcd" = some (.builtin "math.gcd"))  
    (hr : Room k (FX P w G base Nmade "made" stmade f (cdv) A outer s H E).A) : PSs (FX P w G base Nmade "made" stmade f (cdv) A outer s H E) (defBody stmade) (tS G (WEx E) (fsmade )) := by
  exact (ss_cons (sset 2 scmade.nd (xcF bf_gcd f_gcd (xcons (xv 0) (xcons (xv 1) xnil))))
    (ss_cons (sset 2 scmade.nd (xife (tcmp ogt bl_gt (xv 1) xi) (xv 2) (xneg (xv 2))))
    (ss_one (s_ret (xtup (xcons (xbin ofdiv (xv 0) (xv 2)) (xcons (xbin ofdiv (xv 1) (xv 2)) xnil)))))))
abbrev stplus : Stmt := top 19
abbrev Nplus : List Str := ["one", "other"]
abbrev Pplus : List Str := ["one", "other"]
theorem scplus : FnScope Nplus Pplus (defScope stplus) := ⟨by kernel_rfl, by kernel_rfl, by kernel_rfl, by decide +kernel, by kernel_rfl, by decide +kernel, by decide +kernel⟩
def fsplus (cmade : Ct) : FS :=
  (retS (callE cmade (consF (binE (addF false) (binE (mulF false) (idxE (varF 0) (int! 0)) (idxE (varF 1) (int! 1))) (binE (mulF false) (idxE (varF 1) (int! 0)) (idxE (varF 0) (int! 1)))) (consF (binE (mulF false) (idxE (varF 0) (int! 1)) (idxE (varF 1) (int! 1))) nilF))))
theorem bodyplus {P : Program} {w : World} {G : Gr} {base : Heap} {f : Addr} {cdv : Value} {A : Around} {outer : List PySem.Env} {s : Shared} {H : Hp} {E : XK} {k kmade : Nat} {cmade : Ct}  (hmade : Has P w G base "made" Pmade kmade cmade) (smade : Ct.sized cmade Pmade.length) (lmade : kmade ≤ k) 
    (hr : Room k (FX P w G base Nplus "plus" stplus f (cdv) A outer s H E).A) : PSs (FX P w G base Nplus "plus" stplus f (cdv) A outer s H E) (defBody stplus) (tS G (WEx E) (fsplus cmade)) := by
  exact (ss_one (s_ret (xfn hmade smade hr (by omega) tkF (xcons (xbin (oadd false) (xbin (omul false) (xix (xv 0) xi) (xix (xv 1) xi)) (xbin (omul false) (xix (xv 1) xi) (xix (xv 0) xi))) (xcons (xbin (omul false) (xix (xv 0) xi) (xix (xv 1) xi)) xnil)))))
abbrev sttimes : Stmt := top 20
abbrev Ntimes : List Str := ["one", "other"]
abbrev Ptimes : List Str := ["one", "other"]
theorem sctimes : FnScope Ntimes Ptimes (defScope sttimes) := ⟨by kernel_rfl, by kernel_rfl, by kernel_rfl, by decide +kernel, by kernel_rfl, by decide +kernel, by decide +kernel⟩
def fstimes (cmade : Ct) : FS :=
  (retS (callE cmade (consF (binE (mulF false) (idxE (varF 0) (int! 0)) (idxE (varF 1) (int! 0))) (consF (binE (mulF false) (idxE (varF 0) (int! 1)) (idxE (varF 1) (int! 1))) nilF))))
theorem bodytimes {P : Program} {w : World} {G : Gr} {base : Heap} {f : Addr} {cdv : Value} {A : Around} {outer : List PySem.Env} {s : Shared} {H : Hp} {E : XK} {k kmade : Nat} {cmade : Ct}  (hmade : Has P w G base "made" Pmade kmade cmade) (smade : Ct.sized cmade Pmade.length) (lmade : kmade ≤ k) 
    (hr : Room k (FX P w G base Ntimes "times" sttimes f (cdv) A outer s H E).A) : PSs (FX P w G base Ntimes "times" sttimes f (cdv) A outer s H E) (defBody sttimes) (tS G (WEx E) (fstimes cmade)) := by
  exact (ss_one (s_ret (xfn hmade smade hr (by omega) tkF (xcons (xbin (omul false) (xix (xv 0) xi) (xix (xv 1) xi)) (xcons (xbin (omul false) (xix (xv 0) xi) (xix (xv 1) xi)) xnil)))))
abbrev stpower : Stmt := top 39
abbrev Npower : List Str := ["number", "many", "found", "turn"]
abbrev Ppower : List Str := ["number", "many"]
theorem scpower : FnScope Npower Ppower (defScope stpower) := ⟨by kernel_rfl, by kernel_rfl, by kernel_rfl, by decide +kernel, by kernel_rfl, by decide +kernel, by decide +kernel⟩
def fspower : FS :=
  (seqS (setS 2 (int! 1))
    (seqS (forS (bindF (consF (varF 1) nilF) rng1) (.name 3) (setS 2 (binE (mulF false) (varF 2) (varF 0))))
    (retS (varF 2))))
theorem bodypower {P : Program} {w : World} {G : Gr} {base : Heap} {f : Addr} {cdv : Value} {A : Around} {outer : List PySem.Env} {s : Shared} {H : Hp} {E : XK} {k  : Nat}  (b_range : G.mg "range" = none)  
    (hr : Room k (FX P w G base Npower "power" stpower f (cdv) A outer s H E).A) : PSs (FX P w G base Npower "power" stpower f (cdv) A outer s H E) (defBody stpower) (tS G (WEx E) (fspower )) := by
  exact (ss_cons (sset 2 scpower.nd xi)
    (ss_cons (sfor poF (irng1 b_range (xcons (xv 1) xnil)) (gname 3 scpower.nd) (ss_one (sset 2 scpower.nd (xbin (omul false) (xv 2) (xv 0)))))
    (ss_one (s_ret (xv 2)))))
abbrev straised : Stmt := top 40
abbrev Nraised : List Str := ["one", "many"]
abbrev Praised : List Str := ["one", "many"]
theorem scraised : FnScope Nraised Praised (defScope straised) := ⟨by kernel_rfl, by kernel_rfl, by kernel_rfl, by decide +kernel, by kernel_rfl, by decide +kernel, by decide +kernel⟩
def fsraised (cpower : Ct) : FS :=
  (retS (tupE (consF (callE cpower (consF (idxE (varF 0) (int! 0)) (consF (varF 1) nilF))) (consF (callE cpower (consF (idxE (varF 0) (int! 1)) (consF (varF 1) nilF))) nilF))))
theorem bodyraised {P : Program} {w : World} {G : Gr} {base : Heap} {f : Addr} {cdv : Value} {A : Around} {outer : List PySem.Env} {s : Shared} {H : Hp} {E : XK} {k kpower : Nat} {cpower : Ct}  (hpower : Has P w G base "power" Ppower kpower cpower) (spower : Ct.sized cpower Ppower.length) (lpower : kpower ≤ k) 
    (hr : Room k (FX P w G base Nraised "raised" straised f (cdv) A outer s H E).A) : PSs (FX P w G base Nraised "raised" straised f (cdv) A outer s H E) (defBody straised) (tS G (WEx E) (fsraised cpower)) := by
  exact (ss_one (s_ret (xtup (xcons (xfn hpower spower hr (by omega) tkF (xcons (xix (xv 0) xi) (xcons (xv 1) xnil))) (xcons (xfn hpower spower hr (by omega) tkF (xcons (xix (xv 0) xi) (xcons (xv 1) xnil))) xnil)))))
abbrev stvalue_in : Stmt := top 41
abbrev Nvalue_in : List Str := ["surface", "x", "y", "found", "i", "j", "own"]
abbrev Pvalue_in : List Str := ["surface", "x", "y"]
theorem scvalue_in : FnScope Nvalue_in Pvalue_in (defScope stvalue_in) := ⟨by kernel_rfl, by kernel_rfl, by kernel_rfl, by decide +kernel, by kernel_rfl, by decide +kernel, by decide +kernel⟩
def fsvalue_in (cplus ctimes craised : Ct) : FS :=
  (seqS (setS 3 (tup! [.int 0, .int 1]))
    (seqS (forS (itE (varF 0)) (.tup [(.tup [(.name 4), (.name 5)]), (.name 6)]) (setS 3 (callE cplus (consF (varF 3) (consF (callE ctimes (consF (tupE (consF (varF 6) (consF (int! 1) nilF))) (consF (callE ctimes (consF (callE craised (consF (varF 1) (consF (varF 4) nilF))) (consF (callE craised (consF (varF 2) (consF (varF 5) nilF))) nilF))) nilF))) nilF)))))
    (retS (varF 3))))
theorem bodyvalue_in {P : Program} {w : World} {G : Gr} {base : Heap} {f : Addr} {cdv : Value} {A : Around} {outer : List PySem.Env} {s : Shared} {H : Hp} {E : XK} {k kplus ktimes kraised : Nat} {cplus ctimes craised : Ct} (t_NONE : TupK G "NONE" [.int 0, .int 1]) (hplus : Has P w G base "plus" Pplus kplus cplus) (splus : Ct.sized cplus Pplus.length) (lplus : kplus ≤ k) (htimes : Has P w G base "times" Ptimes ktimes ctimes) (stimes : Ct.sized ctimes Ptimes.length) (ltimes : ktimes ≤ k) (hraised : Has P w G base "raised" Praised kraised craised) (sraised : Ct.sized craised Praised.length) (lraised : kraised ≤ k) 
    (hr : Room k (FX P w G base Nvalue_in "value_in" stvalue_in f (cdv) A outer s H E).A) : PSs (FX P w G base Nvalue_in "value_in" stvalue_in f (cdv) A outer s H E) (defBody stvalue_in) (tS G (WEx E) (fsvalue_in cplus ctimes craised)) := by
  exact (ss_cons (sset 3 scvalue_in.nd (xtupK t_NONE))
    (ss_cons (sfor poF (ival (xv 0)) (gtup (gcons (gtup (gcons (gname 4 scvalue_in.nd) (gcons (gname 5 scvalue_in.nd) gs_nil))) (gcons (gname 6 scvalue_in.nd) gs_nil))) (ss_one (sset 3 scvalue_in.nd (xfn hplus splus hr (by omega) tkF (xcons (xv 3) (xcons (xfn htimes stimes hr (by omega) tkF (xcons (xtup (xcons (xv 6) (xcons xi xnil))) (xcons (xfn htimes stimes hr (by omega) tkF (xcons (xfn hraised sraised hr (by omega) tkF (xcons (xv 1) (xcons (xv 4) xnil))) (xcons (xfn hraised sraised hr (by omega) tkF (xcons (xv 2) (xcons (xv 5) xnil))) xnil))) xnil))) xnil))))))
    (ss_one (s_ret (xv 3)))))
abbrev stvalue_at : Stmt := top 47
abbrev Nvalue_at : List Str := ["surface", "x", "y"]
abbrev Pvalue_at : List Str := ["surface", "x", "y"]
theorem scvalue_at : FnScope Nvalue_at Pvalue_at (defScope stvalue_at) := ⟨by kernel_rfl, by kernel_rfl, by kernel_rfl, by decide +kernel, by kernel_rfl, by decide +kernel, by decide +kernel⟩
def fsvalue_at (cneed_surface cneed_fraction cvalue_in : Ct) : FS :=
  (seqS (exprS (callE cneed_surface (consF (varF 0) nilF)))
    (seqS (exprS (callE cneed_fraction (consF (varF 1) nilF)))
    (seqS (exprS (callE cneed_fraction (consF (varF 2) nilF)))
    (retS (callE cvalue_in (consF (varF 0) (consF (varF 1) (consF (varF 2) nilF))))))))
theorem bodyvalue_at {P : Program} {w : World} {G : Gr} {base : Heap} {f : Addr} {cdv : Value} {A : Around} {outer : List PySem.Env} {s : Shared} {H : Hp} {E : XK} {k kneed_surface kneed_fraction kvalue_in : Nat} {cneed_surface cneed_fraction cvalue_in : Ct}  (hneed_surface : Has P w G base "need_surface" Pneed_surface kneed_surface cneed_surface) (sneed_surface : Ct.sized cneed_surface Pneed_surface.length) (lneed_surface : kneed_surface ≤ k) (hneed_fraction : Has P w G base "need_fraction" Pneed_fraction kneed_fraction cneed_fraction) (sneed_fraction : Ct.sized cneed_fraction Pneed_fraction.length) (lneed_fraction : kneed_fraction ≤ k) (hvalue_in : Has P w G base "value_in" Pvalue_in kvalue_in cvalue_in) (svalue_in : Ct.sized cvalue_in Pvalue_in.length) (lvalue_in : kvalue_in ≤ k) 
    (hr : Room k (FX P w G base Nvalue_at "value_at" stvalue_at f (cdv) A outer s H E).A) : PSs (FX P w G base Nvalue_at "value_at" stvalue_at f (cdv) A outer s H E) (defBody stvalue_at) (tS G (WEx E) (fsvalue_at cneed_surface cneed_fraction cvalue_in)) := by
  exact (ss_cons (sexpr (xfn hneed_surface sneed_surface hr (by omega) tkF (xcons (xv 0) xnil)))
    (ss_cons (sexpr (xfn hneed_fraction sneed_fraction hr (by omega) tkF (xcons (xv 1) xnil)))
    (ss_cons (sexpr (xfn hneed_fraction sneed_fraction hr (by omega) tkF (xcons (xv 2) xnil)))
    (ss_one (s_ret (xfn hvalue_in svalue_in hr (by omega) tkF (xcons (xv 0) (xcons (xv 1) (xcons (xv 2) xnil)))))))))
abbrev sttrimmed : Stmt := top 30
abbrev Ntrimmed : List Str := ["row", "found"]
abbrev Ptrimmed : List Str := ["row"]
theorem sctrimmed : FnScope Ntrimmed Ptrimmed (defScope sttrimmed) := ⟨by kernel_rfl, by kernel_rfl, by kernel_rfl, by decide +kernel, by kernel_rfl, by decide +kernel, by decide +kernel⟩
def fstrimmed : FS :=
  (seqS (setS 1 (biE tupB (consF (varF 0) nilF)))
    (seqS (whileS (andF (cmpT neG (varF 1) (tupE nilF)) (cmpT eqG (idxE (varF 1) (negE (int! 1))) (int! 0))) (setS 1 (slcE false (varF 1) noF (someI (negE (int! 1))))))
    (retS (varF 1))))
theorem bodytrimmed {P : Program} {w : World} {G : Gr} {base : Heap} {f : Addr} {cdv : Value} {A : Around} {outer : List PySem.Env} {s : Shared} {H : Hp} {E : XK} {k  : Nat}  (b_tuple : G.mg "tuple" = none)  
    (hr : Room k (FX P w G base Ntrimmed "trimmed" sttrimmed f (cdv) A outer s H E).A) : PSs (FX P w G base Ntrimmed "trimmed" sttrimmed f (cdv) A outer s H E) (defBody sttrimmed) (tS G (WEx E) (fstrimmed )) := by
  exact (ss_cons (sset 1 sctrimmed.nd (xcT (bf_tup rfl) b_tuple (xcons (xv 0) xnil)))
    (ss_cons (s_while poF (PW.pt (wa (tcmp (one' hr) bl_ne (xv 1) (xtup xnil)) (wa1 (tcmp (oeq hr) bl_eq (xix (xv 1) (xneg xi)) xi)))) (ss_one (sset 1 sctrimmed.nd (xsl false (xv 1) on (os (xneg xi))))))
    (ss_one (s_ret (xv 1)))))
abbrev stcontent : Stmt := top 31
abbrev Ncontent : List Str := ["line", "found", "own"]
abbrev Pcontent : List Str := ["line"]
theorem sccontent : FnScope Ncontent Pcontent (defScope stcontent) := ⟨by kernel_rfl, by kernel_rfl, by kernel_rfl, by decide +kernel, by kernel_rfl, by decide +kernel, by decide +kernel⟩
def fscontent : FS :=
  (seqS (setS 1 (int! 0))
    (seqS (forS (itE (varF 0)) (.name 2) (setS 1 (biE gcdB (consF (varF 1) (consF (varF 2) nilF)))))
    (retS (varF 1))))
theorem bodycontent {P : Program} {w : World} {G : Gr} {base : Heap} {f : Addr} {cdv : Value} {A : Around} {outer : List PySem.Env} {s : Shared} {H : Hp} {E : XK} {k  : Nat}  (f_gcd : G.mg "gcd" = some (.builtin "math.gcd"))  
    (hr : Room k (FX P w G base Ncontent "content" stcontent f (cdv) A outer s H E).A) : PSs (FX P w G base Ncontent "content" stcontent f (cdv) A outer s H E) (defBody stcontent) (tS G (WEx E) (fscontent )) := by
  exact (ss_cons (sset 1 sccontent.nd xi)
    (ss_cons (sfor poF (ival (xv 0)) (gname 2 sccontent.nd) (ss_one (sset 1 sccontent.nd (xcF bf_gcd f_gcd (xcons (xv 1) (xcons (xv 2) xnil))))))
    (ss_one (s_ret (xv 1)))))
abbrev stlessened : Stmt := top 32
abbrev Nlessened : List Str := ["line", "common", "own"]
abbrev Plessened : List Str := ["line"]
theorem sclessened : FnScope Nlessened Plessened (defScope stlessened) := ⟨by kernel_rfl, by kernel_rfl, by kernel_rfl, by decide +kernel, by kernel_rfl, by decide +kernel, by decide +kernel⟩
def fslessened (ccontent : Ct) : FS :=
  (seqS (setS 1 (callE ccontent (consF (varF 0) nilF)))
    (retS (biE tupB (consF (compF false (itE (varF 0)) (.name 2) (retF true) (binE fdivG (varF 2) (varF 1)) ([("own", 2)].map (·.2))) nilF))))
theorem bodylessened {P : Program} {w : World} {G : Gr} {base : Heap} {f : Addr} {cdv : Value} {A : Around} {outer : List PySem.Env} {s : Shared} {H : Hp} {E : XK} {k kcontent : Nat} {ccontent : Ct} (b_tuple : G.mg "tuple" = none) (hcontent : Has P w G base "content" Pcontent kcontent ccontent) (scontent : Ct.sized ccontent Pcontent.length) (lcontent : kcontent ≤ k) 
    (hr : Room k (FX P w G base Nlessened "lessened" stlessened f (cdv) A outer s H E).A) : PSs (FX P w G base Nlessened "lessened" stlessened f (cdv) A outer s H E) (defBody stlessened) (tS G (WEx E) (fslessened ccontent)) := by
  exact (ss_cons (sset 1 sclessened.nd (xfn hcontent scontent hr (by omega) tkF (xcons (xv 0) xnil)))
    (ss_one (s_ret (xcT (bf_tup rfl) b_tuple (xcons (xlc false [("own", 2)] sclessened.nd (ival (xv 0)) (gnameF 2 (fun _ => sclessened.nd)) (fun _ => ts_nil) (fun _ => (xbin ofdiv (xv 2) (xv 1)))) xnil)))))
abbrev stprimitive : Stmt := top 33
abbrev Nprimitive : List Str := ["line", "found", "own"]
abbrev Pprimitive : List Str := ["line"]
theorem scprimitive : FnScope Nprimitive Pprimitive (defScope stprimitive) := ⟨by kernel_rfl, by kernel_rfl, by kernel_rfl, by decide +kernel, by kernel_rfl, by decide +kernel, by decide +kernel⟩
def fsprimitive (clessened : Ct) : FS :=
  (seqS (setS 1 (callE clessened (consF (varF 0) nilF)))
    (retS (iteV (cmpT gtG (idxE (varF 1) (negE (int! 1))) (int! 0)) (varF 1) (biE tupB (consF (compF false (itE (varF 1)) (.name 2) (retF true) (negE (varF 2)) ([("own", 2)].map (·.2))) nilF)))))
theorem bodyprimitive {P : Program} {w : World} {G : Gr} {base : Heap} {f : Addr} {cdv : Value} {A : Around} {outer : List PySem.Env} {s : Shared} {H : Hp} {E : XK} {k klessened : Nat} {clessened : Ct} (b_tuple : G.mg "tuple" = none) (hlessened : Has P w G base "lessened" Plessened klessened clessened) (slessened : Ct.sized clessened Plessened.length) (llessened : klessened ≤ k) 
    (hr : Room k (FX P w G base Nprimitive "primitive" stprimitive f (cdv) A outer s H E).A) : PSs (FX P w G base Nprimitive "primitive" stprimitive f (cdv) A outer s H E) (defBody stprimitive) (tS G (WEx E) (fsprimitive clessened)) := by
  exact (ss_cons (sset 1 scprimitive.nd (xfn hlessened slessened hr (by omega) tkF (xcons (xv 0) xnil)))
    (ss_one (s_ret (xife (tcmp ogt bl_gt (xix (xv 1) (xneg xi)) xi) (xv 1) (xcT (bf_tup rfl) b_tuple (xcons (xlc false [("own", 2)] scprimitive.nd (ival (xv 1)) (gnameF 2 (fun _ => scprimitive.nd)) (fun _ => ts_nil) (fun _ => (xneg (xv 2)))) xnil))))))
abbrev sthigh_y : Stmt := top 43
abbrev Nhigh_y : List Str := ["surface", "powers", "own"]
abbrev Phigh_y : List Str := ["surface"]
theorem schigh_y : FnScope Nhigh_y Phigh_y (defScope sthigh_y) := ⟨by kernel_rfl, by kernel_rfl, by kernel_rfl, by decide +kernel, by kernel_rfl, by decide +kernel, by decide +kernel⟩
def fshigh_y : FS :=
  (retS (biE maxB (consF (binE (addF false) (lstE false (consF (negE (int! 1)) nilF)) (compF false (itE (varF 0)) (.tup [(.name 1), (.name 2)]) (retF true) (idxE (varF 1) (int! 1)) ([("powers", 1), ("own", 2)].map (·.2)))) nilF)))
theorem bodyhigh_y {P : Program} {w : World} {G : Gr} {base : Heap} {f : Addr} {cdv : Value} {A : Around} {outer : List PySem.Env} {s : Shared} {H : Hp} {E : XK} {k  : Nat}  (b_max : G.mg "max" = none)  
    (hr : Room k (FX P w G base Nhigh_y "high_y" sthigh_y f (cdv) A outer s H E).A) : PSs (FX P w G base Nhigh_y "high_y" sthigh_y f (cdv) A outer s H E) (defBody sthigh_y) (tS G (WEx E) (fshigh_y )) := by
  exact (ss_one (s_ret (xcB (bf_max rfl rfl) b_max (xcons (xbin (oadd false) (xlst false (xcons (xneg xi) xnil)) (xlc false [("powers", 1), ("own", 2)] schigh_y.nd (ival (xv 0)) (gtupF (gconsF (gnameF 1 (fun _ => schigh_y.nd)) (gconsF (gnameF 2 (fun _ => schigh_y.nd)) gnilF))) (fun _ => ts_nil) (fun _ => (xix (xv 1) xi)))) xnil))))
abbrev stline_by : Stmt := top 44
abbrev Nline_by : List Str := ["surface", "x", "top", "found", "i", "j", "own", "line", "powers"]
abbrev Pline_by : List Str := ["surface", "x"]
theorem scline_by : FnScope Nline_by Pline_by (defScope stline_by) := ⟨by kernel_rfl, by kernel_rfl, by kernel_rfl, by decide +kernel, by kernel_rfl, by decide +kernel, by decide +kernel⟩
def fsline_by (chigh_y cpower ctrimmed cprimitive : Ct) : FS :=
  (seqS (setS 2 (biE maxB (consF (binE (addF false) (lstE false (consF (int! 0) nilF)) (compF false (itE (varF 0)) (.tup [(.name 8), (.name 6)]) (retF true) (idxE (varF 8) (int! 0)) ([("powers", 8), ("own", 6)].map (·.2)))) nilF)))
    (seqS (setS 3 (binE (mulF true) (lstE false (consF (int! 0) nilF)) (binE (addF false) (callE chigh_y (consF (varF 0) nilF)) (int! 1))))
    (seqS (forS (itE (varF 0)) (.tup [(.tup [(.name 4), (.name 5)]), (.name 6)]) (subS (binE (addF false) (idxE (varF 3) (varF 5)) (binE (mulF false) (binE (mulF false) (varF 6) (callE cpower (consF (idxE (varF 1) (int! 0)) (consF (varF 4) nilF)))) (callE cpower (consF (idxE (varF 1) (int! 1)) (consF (binE subF (varF 2) (varF 4)) nilF))))) (varF 3) (varF 5)))
    (seqS (setS 7 (callE ctrimmed (consF (varF 3) nilF)))
    (retS (iteV (cmpT neG (varF 7) (tupE nilF)) (callE cprimitive (consF (varF 7) nilF)) (tupE nilF)))))))
theorem bodyline_by {P : Program} {w : World} {G : Gr} {base : Heap} {f : Addr} {cdv : Value} {A : Around} {outer : List PySem.Env} {s : Shared} {H : Hp} {E : XK} {k khigh_y kpower ktrimmed kprimitive : Nat} {chigh_y cpower ctrimmed cprimitive : Ct} (b_max : G.mg "max" = none) (hhigh_y : Has P w G base "high_y" Phigh_y khigh_y chigh_y) (shigh_y : Ct.sized chigh_y Phigh_y.length) (lhigh_y : khigh_y ≤ k) (hpower : Has P w G base "power" Ppower kpower cpower) (spower : Ct.sized cpower Ppower.length) (lpower : kpower ≤ k) (htrimmed : Has P w G base "trimmed" Ptrimmed ktrimmed ctrimmed) (strimmed : Ct.sized ctrimmed Ptrimmed.length) (ltrimmed : ktrimmed ≤ k) (hprimitive : Has P w G base "primitive" Pprimitive kprimitive cprimitive) (sprimitive : Ct.sized cprimitive Pprimitive.length) (lprimitive : kprimitive ≤ k) 
    (hr : Room k (FX P w G base Nline_by "line_by" stline_by f (cdv) A outer s H E).A) : PSs (FX P w G base Nline_by "line_by" stline_by f (cdv) A outer s H E) (defBody stline_by) (tS G (WEx E) (fsline_by chigh_y cpower ctrimmed cprimitive)) := by
  exact (ss_cons (sset 2 scline_by.nd (xcB (bf_max rfl rfl) b_max (xcons (xbin (oadd false) (xlst false (xcons xi xnil)) (xlc false [("powers", 8), ("own", 6)] scline_by.nd (ival (xv 0)) (gtupF (gconsF (gnameF 8 (fun _ => scline_by.nd)) (gconsF (gnameF 6 (fun _ => scline_by.nd)) gnilF))) (fun _ => ts_nil) (fun _ => (xix (xv 8) xi)))) xnil)))
    (ss_cons (sset 3 scline_by.nd (xbin (omul true) (xlst false (xcons xi xnil)) (xbin (oadd false) (xfn hhigh_y shigh_y hr (by omega) tkF (xcons (xv 0) xnil)) xi)))
    (ss_cons (sfor poF (ival (xv 0)) (gtup (gcons (gtup (gcons (gname 4 scline_by.nd) (gcons (gname 5 scline_by.nd) gs_nil))) (gcons (gname 6 scline_by.nd) gs_nil))) (ss_one (sub' (xbin (oadd false) (xix (xv 3) (xv 5)) (xbin (omul false) (xbin (omul false) (xv 6) (xfn hpower spower hr (by omega) tkF (xcons (xix (xv 1) xi) (xcons (xv 4) xnil)))) (xfn hpower spower hr (by omega) tkF (xcons (xix (xv 1) xi) (xcons (xbin osub (xv 2) (xv 4)) xnil))))) (xv 3) (xv 5))))
    (ss_cons (sset 7 scline_by.nd (xfn htrimmed strimmed hr (by omega) tkF (xcons (xv 3) xnil)))
    (ss_one (s_ret (xife (tcmp (one' hr) bl_ne (xv 7) (xtup xnil)) (xfn hprimitive sprimitive hr (by omega) tkF (xcons (xv 7) xnil)) (xtup xnil))))))))
abbrev stline_on : Stmt := top 48
abbrev Nline_on : List Str := ["surface", "x"]
abbrev Pline_on : List Str := ["surface", "x"]
theorem scline_on : FnScope Nline_on Pline_on (defScope stline_on) := ⟨by kernel_rfl, by kernel_rfl, by kernel_rfl, by decide +kernel, by kernel_rfl, by decide +kernel, by decide +kernel⟩
def fsline_on (cneed_surface cneed_fraction cline_by : Ct) : FS :=
  (seqS (exprS (callE cneed_surface (consF (varF 0) nilF)))
    (seqS (exprS (callE cneed_fraction (consF (varF 1) nilF)))
    (retS (callE cline_by (consF (varF 0) (consF (varF 1) nilF))))))
theorem bodyline_on {P : Program} {w : World} {G : Gr} {base : Heap} {f : Addr} {cdv : Value} {A : Around} {outer : List PySem.Env} {s : Shared} {H : Hp} {E : XK} {k kneed_surface kneed_fraction kline_by : Nat} {cneed_surface cneed_fraction cline_by : Ct}  (hneed_surface : Has P w G base "need_surface" Pneed_surface kneed_surface cneed_surface) (sneed_surface : Ct.sized cneed_surface Pneed_surface.length) (lneed_surface : kneed_surface ≤ k) (hneed_fraction : Has P w G base "need_fraction" Pneed_fraction kneed_fraction cneed_fraction) (sneed_fraction : Ct.sized cneed_fraction Pneed_fraction.length) (lneed_fraction : kneed_fraction ≤ k) (hline_by : Has P w G base "line_by" Pline_by kline_by cline_by) (sline_by : Ct.sized cline_by Pline_by.length) (lline_by : kline_by ≤ k) 
    (hr : Room k (FX P w G base Nline_on "line_on" stline_on f (cdv) A outer s H E).A) : PSs (FX P w G base Nline_on "line_on" stline_on f (cdv) A outer s H E) (defBody stline_on) (tS G (WEx E) (fsline_on cneed_surface cneed_fraction cline_by)) := by
  exact (ss_cons (sexpr (xfn hneed_surface sneed_surface hr (by omega) tkF (xcons (xv 0) xnil)))
    (ss_cons (sexpr (xfn hneed_fraction sneed_fraction hr (by omega) tkF (xcons (xv 1) xnil)))
    (ss_one (s_ret (xfn hline_by sline_by hr (by omega) tkF (xcons (xv 0) (xcons (xv 1) xnil)))))))
abbrev stdegree_in : Stmt := top 37
abbrev Ndegree_in : List Str := ["surface", "powers", "own"]
abbrev Pdegree_in : List Str := ["surface"]
theorem scdegree_in : FnScope Ndegree_in Pdegree_in (defScope stdegree_in) := ⟨by kernel_rfl, by kernel_rfl, by kernel_rfl, by decide +kernel, by kernel_rfl, by decide +kernel, by decide +kernel⟩
def fsdegree_in : FS :=
  (retS (biE maxB (consF (binE (addF false) (lstE false (consF (negE (int! 1)) nilF)) (compF false (itE (varF 0)) (.tup [(.name 1), (.name 2)]) (retF true) (binE (addF false) (idxE (varF 1) (int! 0)) (idxE (varF 1) (int! 1))) ([("powers", 1), ("own", 2)].map (·.2)))) nilF)))
theorem bodydegree_in {P : Program} {w : World} {G : Gr} {base : Heap} {f : Addr} {cdv : Value} {A : Around} {outer : List PySem.Env} {s : Shared} {H : Hp} {E : XK} {k  : Nat}  (b_max : G.mg "max" = none)  
    (hr : Room k (FX P w G base Ndegree_in "degree_in" stdegree_in f (cdv) A outer s H E).A) : PSs (FX P w G base Ndegree_in "degree_in" stdegree_in f (cdv) A outer s H E) (defBody stdegree_in) (tS G (WEx E) (fsdegree_in )) := by
  exact (ss_one (s_ret (xcB (bf_max rfl rfl) b_max (xcons (xbin (oadd false) (xlst false (xcons (xneg xi) xnil)) (xlc false [("powers", 1), ("own", 2)] scdegree_in.nd (ival (xv 0)) (gtupF (gconsF (gnameF 1 (fun _ => scdegree_in.nd)) (gconsF (gnameF 2 (fun _ => scdegree_in.nd)) gnilF))) (fun _ => ts_nil) (fun _ => (xbin (oadd false) (xix (xv 1) xi) (xix (xv 1) xi))))) xnil))))
abbrev stfits_curve : Stmt := top 38
abbrev Nfits_curve : List Str := ["value", "powers", "own"]
abbrev Pfits_curve : List Str := ["value"]
theorem scfits_curve : FnScope Nfits_curve Pfits_curve (defScope stfits_curve) := ⟨by kernel_rfl, by kernel_rfl, by kernel_rfl, by decide +kernel, by kernel_rfl, by decide +kernel, by decide +kernel⟩
def fsfits_curve (cfits_surface cdegree_in : Ct) : FS :=
  (seqS (ifS (orF (notF (truT (callE cfits_surface (consF (varF 0) nilF)))) (notF (chT leG leG (int! 1) (callE cdegree_in (consF (varF 0) nilF)) (int! 3)))) (retS (bl! false)) nilS)
    (retS (biE allB (consF (compF false (itE (varF 0)) (.tup [(.name 1), (.name 2)]) (retF true) (binE leG (biE absB (consF (varF 2) nilF)) (int! 1000)) ([("powers", 1), ("own", 2)].map (·.2))) nilF))))
theorem bodyfits_curve {P : Program} {w : World} {G : Gr} {base : Heap} {f : Addr} {cdv : Value} {A : Around} {outer : List PySem.Env} {s : Shared} {H : Hp} {E : XK} {k kfits_surface kdegree_in : Nat} {cfits_surface cdegree_in : Ct} (n_DEGREE : ∃ t, G.mg "DEGREE" = some (.int 3 t)) (b_abs : G.mg "abs" = none) (n_COEFFICIENT_planevalues : ∃ t, G.mg "COEFFICIENT_planevalues" = some (.int 1000 t)) (b_all : G.mg "all" = none) (hfits_surface : Has P w G base "fits_surface" Pfits_surface kfits_surface cfits_surface) (sfits_surface : Ct.sized cfits_surface Pfits_surface.length) (lfits_surface : kfits_surface ≤ k) (hdegree_in : Has P w G base "degree_in" Pdegree_in kdegree_in cdegree_in) (sdegree_in : Ct.sized cdegree_in Pdegree_in.length) (ldegree_in : kdegree_in ≤ k) 
    (hr : Room k (FX P w G base Nfits_curve "fits_curve" stfits_curve f (cdv) A outer s H E).A) : PSs (FX P w G base Nfits_curve "fits_curve" stfits_curve f (cdv) A outer s H E) (defBody stfits_curve) (tS G (WEx E) (fsfits_curve cfits_surface cdegree_in)) := by
  exact (ss_cons (s_if (PW.pt (wo (tnot (tt (xfn hfits_surface sfits_surface hr (by omega) tkF (xcons (xv 0) xnil)))) (wo1 (tnot (tch ole ole bl_le xi (xfn hdegree_in sdegree_in hr (by omega) tkF (xcons (xv 0) xnil)) (xg n_DEGREE)))))) (ss_one (s_ret xb)) ss_nil)
    (ss_one (s_ret (xcB (bf_all rfl rfl) b_all (xcons (xlc false [("powers", 1), ("own", 2)] scfits_curve.nd (ival (xv 0)) (gtupF (gconsF (gnameF 1 (fun _ => scfits_curve.nd)) (gconsF (gnameF 2 (fun _ => scfits_curve.nd)) gnilF))) (fun _ => ts_nil) (fun _ => (xcmp ole (xcB bf_abs b_abs (xcons (xv 2) xnil)) (xg n_COEFFICIENT_planevalues)))) xnil)))))
abbrev stis_curve : Stmt := top 45
abbrev Nis_curve : List Str := ["value"]
abbrev Pis_curve : List Str := ["value"]
theorem scis_curve : FnScope Nis_curve Pis_curve (defScope stis_curve) := ⟨by kernel_rfl, by kernel_rfl, by kernel_rfl, by decide +kernel, by kernel_rfl, by decide +kernel, by decide +kernel⟩
def fsis_curve (cfits_curve : Ct) : FS :=
  (retS (callE cfits_curve (consF (varF 0) nilF)))
theorem bodyis_curve {P : Program} {w : World} {G : Gr} {base : Heap} {f : Addr} {cdv : Value} {A : Around} {outer : List PySem.Env} {s : Shared} {H : Hp} {E : XK} {k kfits_curve : Nat} {cfits_curve : Ct}  (hfits_curve : Has P w G base "fits_curve" Pfits_curve kfits_curve cfits_curve) (sfits_curve : Ct.sized cfits_curve Pfits_curve.length) (lfits_curve : kfits_curve ≤ k) 
    (hr : Room k (FX P w G base Nis_curve "is_curve" stis_curve f (cdv) A outer s H E).A) : PSs (FX P w G base Nis_curve "is_curve" stis_curve f (cdv) A outer s H E) (defBody stis_curve) (tS G (WEx E) (fsis_curve cfits_curve)) := by
  exact (ss_one (s_ret (xfn hfits_curve sfits_curve hr (by omega) tkF (xcons (xv 0) xnil))))
abbrev st_law_error : Stmt := top 61
abbrev N_law_error : List Str := ["call"]
theorem sc_law_error : FnScope N_law_error ["call"] (defScope st_law_error) := ⟨by kernel_rfl, by kernel_rfl, by kernel_rfl, by decide +kernel, by kernel_rfl, by decide +kernel, by decide +kernel⟩
abbrev hs_law_error : List (Str × Str) := [("InvalidCurve", "curve"), ("SharePart", "part"), ("InvalidSurface", "surface"), ("InvalidFraction", "fraction"), ("InvalidNumber", "number"), ("NearError", "other")]
def w_law_error (x : Str) : Option Str := List.lookup x ([("NearError", "other"), ("InvalidFraction", "fraction"), ("InvalidSurface", "surface"), ("InvalidNumber", "number"), ("InvalidCurve", "curve"), ("SharePart", "part")] : List (Str × Str))
theorem tell_law_error {X : Cx} {g : Addr} {cdv : Value} {q : Str} (hc : ∀ z ∈ hs_law_error, X.mg z.1 = some (.ref (He.ga X.K z.1))) : LamX.GivesTo X N_law_error "_law_error" (defScope st_law_error) g cdv (defBody st_law_error) "call" q (TTm X.K (hdl X.K hs_law_error) "") :=
  gives_many (l := hdl X.K hs_law_error) (fun s H => (.cons (by unfold Gl; kernel_rfl) (by kernel_rfl) (hc ("InvalidCurve", "curve") (List.Mem.head _)) (.cons (by unfold Gl; kernel_rfl) (by kernel_rfl) (hc ("SharePart", "part") (List.Mem.tail _ (List.Mem.head _))) (.cons (by unfold Gl; kernel_rfl) (by kernel_rfl) (hc ("InvalidSurface", "surface") (List.Mem.tail _ (List.Mem.tail _ (List.Mem.head _)))) (.cons (by unfold Gl; kernel_rfl) (by kernel_rfl) (hc ("InvalidFraction", "fraction") (List.Mem.tail _ (List.Mem.tail _ (List.Mem.tail _ (List.Mem.head _))))) (.cons (by unfold Gl; kernel_rfl) (by kernel_rfl) (hc ("InvalidNumber", "number") (List.Mem.tail _ (List.Mem.tail _ (List.Mem.tail _ (List.Mem.tail _ (List.Mem.head _)))))) (.cons (by unfold Gl; kernel_rfl) (by kernel_rfl) (hc ("NearError", "other") (List.Mem.tail _ (List.Mem.tail _ (List.Mem.tail _ (List.Mem.tail _ (List.Mem.tail _ (List.Mem.head _))))))) .nil))))))) (fun f => by kernel_rfl) (fun env => by kernel_rfl)
abbrev st_law_roll : Stmt := top 52
abbrev N_law_roll : List Str := ["cup", "many", "found", "deep"]
abbrev P_law_roll : List Str := ["cup", "many"]
theorem sc_law_roll : FnScope N_law_roll P_law_roll (defScope st_law_roll) := ⟨by kernel_rfl, by kernel_rfl, by kernel_rfl, by decide +kernel, by kernel_rfl, by decide +kernel, by decide +kernel⟩
def fs_law_roll : FS :=
  (seqS (ifS (cmpT gtG (idxE (varF 0) (int! 0)) (int! 0)) (seqS (setS 2 (binE modG (biE intB (consF (idxE (varF 0) (int! 0)) nilF)) (varF 1)))
    (seqS (subS (binE fdivG (idxE (varF 0) (int! 0)) (varF 1)) (varF 0) (int! 0))
    (retS (varF 2)))) nilS)
    (seqS (subS (binE modG (biE intB (consF (binE (addF false) (binE (mulF false) (idxE (varF 0) (int! 1)) (int! 31081)) (int! 8039)) nilF)) (int! 2147483543)) (varF 0) (int! 1))
    (seqS (setS 3 (binE modG (biE intB (consF (binE (mulF false) (idxE (varF 0) (int! 1)) (binE (addF false) (idxE (varF 0) (int! 1)) (int! 251))) nilF)) (int! 2147483587)))
    (retS (binE modG (biE intB (consF (binE fdivG (varF 3) (int! 839)) nilF)) (varF 1))))))
theorem body_law_roll {P : Program} {w : World} {G : Gr} {base : Heap} {f : Addr} {cdv : Value} {A : Around} {outer : List PySem.Env} {s : Shared} {H : Hp} {E : XK} {k  : Nat}  (b_int : G.mg "int" = none)  
    (hr : Room k (FX P w G base N_law_roll "_law_roll" st_law_roll f (cdv) A outer s H E).A) : PSs (FX P w G base N_law_roll "_law_roll" st_law_roll f (cdv) A outer s H E) (defBody st_law_roll) (tS G (WEx E) (fs_law_roll )) := by
  exact (ss_cons (s_if (tcmp ogt bl_gt (xix (xv 0) xi) xi) (ss_cons (sset 2 sc_law_roll.nd (xbin omod (xcT bf_int b_int (xcons (xix (xv 0) xi) xnil)) (xv 1)))
    (ss_cons (sub' (xbin ofdiv (xix (xv 0) xi) (xv 1)) (xv 0) xi)
    (ss_one (s_ret (xv 2))))) ss_nil)
    (ss_cons (sub' (xbin omod (xcT bf_int b_int (xcons (xbin (oadd false) (xbin (omul false) (xix (xv 0) xi) xi) xi) xnil)) xi) (xv 0) xi)
    (ss_cons (sset 3 sc_law_roll.nd (xbin omod (xcT bf_int b_int (xcons (xbin (omul false) (xix (xv 0) xi) (xbin (oadd false) (xix (xv 0) xi) xi)) xnil)) xi))
    (ss_one (s_ret (xbin omod (xcT bf_int b_int (xcons (xbin ofdiv (xv 3) xi) xnil)) (xv 1)))))))
abbrev st_law_some : Stmt := top 53
abbrev N_law_some : List Str := ["cup", "things"]
abbrev P_law_some : List Str := ["cup", "things"]
theorem sc_law_some : FnScope N_law_some P_law_some (defScope st_law_some) := ⟨by kernel_rfl, by kernel_rfl, by kernel_rfl, by decide +kernel, by kernel_rfl, by decide +kernel, by decide +kernel⟩
def fs_law_some (c_law_roll : Ct) : FS :=
  (retS (idxE (varF 1) (callE c_law_roll (consF (varF 0) (consF (biE lenB (consF (varF 1) nilF)) nilF)))))
theorem body_law_some {P : Program} {w : World} {G : Gr} {base : Heap} {f : Addr} {cdv : Value} {A : Around} {outer : List PySem.Env} {s : Shared} {H : Hp} {E : XK} {k k_law_roll : Nat} {c_law_roll : Ct} (b_len : G.mg "len" = none) (h_law_roll : Has P w G base "_law_roll" P_law_roll k_law_roll c_law_roll) (s_law_roll : Ct.sized c_law_roll P_law_roll.length) (l_law_roll : k_law_roll ≤ k) 
    (hr : Room k (FX P w G base N_law_some "_law_some" st_law_some f (cdv) A outer s H E).A) : PSs (FX P w G base N_law_some "_law_some" st_law_some f (cdv) A outer s H E) (defBody st_law_some) (tS G (WEx E) (fs_law_some c_law_roll)) := by
  exact (ss_one (s_ret (xix (xv 1) (xfn h_law_roll s_law_roll hr (by omega) tkF (xcons (xv 0) (xcons (xcB (bf_len rfl) b_len (xcons (xv 1) xnil)) xnil))))))
abbrev st_law_drawn : Stmt := top 63
abbrev N_law_drawn : List Str := ["cup", "found", "turn", "i", "powers"]
abbrev P_law_drawn : List Str := ["cup"]
theorem sc_law_drawn : FnScope N_law_drawn P_law_drawn (defScope st_law_drawn) := ⟨by kernel_rfl, by kernel_rfl, by kernel_rfl, by decide +kernel, by kernel_rfl, by decide +kernel, by decide +kernel⟩
def fs_law_drawn (c_law_roll c_law_some : Ct) : FS :=
  (seqS (setS 1 dnewF)
    (seqS (forS (bindF (consF (callE c_law_roll (consF (varF 0) (consF (int! 6) nilF))) nilF) rng1) (.name 2) (seqS (setS 3 (callE c_law_roll (consF (varF 0) (consF (int! 5) nilF))))
    (dputS (callE c_law_some (consF (varF 0) (consF (lstE false (consF (int! 1) (consF (negE (int! 1)) (consF (int! 2) (consF (negE (int! 7)) (consF (int! 1000) (consF (int! 1001) nilF))))))) nilF))) (varF 1) (consF (varF 3) (consF (callE c_law_roll (consF (varF 0) (consF (binE subF (int! 5) (varF 3)) nilF))) nilF)))))
    (retS (biE tupB (consF (compF false (itE (biE (sortB false) (consF (varF 1) nilF))) (.name 4) (retF true) (tupE (consF (varF 4) (consF (dgetE (varF 1) (varF 4)) nilF))) ([("powers", 4)].map (·.2))) nilF)))))
theorem body_law_drawn {P : Program} {w : World} {G : Gr} {base : Heap} {f : Addr} {cdv : Value} {A : Around} {outer : List PySem.Env} {s : Shared} {H : Hp} {E : XK} {k k_law_roll k_law_some : Nat} {c_law_roll c_law_some : Ct} (b_range : G.mg "range" = none) (b_sorted : G.mg "sorted" = none) (b_tuple : G.mg "tuple" = none) (h_law_roll : Has P w G base "_law_roll" P_law_roll k_law_roll c_law_roll) (s_law_roll : Ct.sized c_law_roll P_law_roll.length) (l_law_roll : k_law_roll ≤ k) (h_law_some : Has P w G base "_law_some" P_law_some k_law_some c_law_some) (s_law_some : Ct.sized c_law_some P_law_some.length) (l_law_some : k_law_some ≤ k) 
    (hr : Room k (FX P w G base N_law_drawn "_law_drawn" st_law_drawn f (cdv) A outer s H E).A) : PSs (FX P w G base N_law_drawn "_law_drawn" st_law_drawn f (cdv) A outer s H E) (defBody st_law_drawn) (tS G (WEx E) (fs_law_drawn c_law_roll c_law_some)) := by
  exact (ss_cons (sset 1 sc_law_drawn.nd xdnew)
    (ss_cons (sfor poF (irng1 b_range (xcons (xfn h_law_roll s_law_roll hr (by omega) tkF (xcons (xv 0) (xcons xi xnil))) xnil)) (gname 2 sc_law_drawn.nd) (ss_cons (sset 3 sc_law_drawn.nd (xfn h_law_roll s_law_roll hr (by omega) tkF (xcons (xv 0) (xcons xi xnil))))
    (ss_one (sdput hr (xfn h_law_some s_law_some hr (by omega) tkF (xcons (xv 0) (xcons (xlst false (xcons xi (xcons (xneg xi) (xcons xi (xcons (xneg xi) (xcons xi (xcons xi xnil))))))) xnil))) (xv 1) (xcons (xv 3) (xcons (xfn h_law_roll s_law_roll hr (by omega) tkF (xcons (xv 0) (xcons (xbin osub xi (xv 3)) xnil))) xnil))))))
    (ss_one (s_ret (xcT (bf_tup rfl) b_tuple (xcons (xlc false [("powers", 4)] sc_law_drawn.nd (ival (xcB (bsort hr false) b_sorted (xcons (xv 1) xnil))) (gnameF 4 (fun _ => sc_law_drawn.nd)) (fun _ => ts_nil) (fun _ => (xtup (xcons (xv 4) (xcons (xdget hr (xv 1) (xv 4)) xnil))))) xnil))))))
abbrev st_law_common : Stmt := top 54
abbrev N_law_common : List Str := ["one", "other"]
abbrev P_law_common : List Str := ["one", "other"]
theorem sc_law_common : FnScope N_law_common P_law_common (defScope st_law_common) := ⟨by kernel_rfl, by kernel_rfl, by kernel_rfl, by decide +kernel, by kernel_rfl, by decide +kernel, by decide +kernel⟩
def fs_law_common : FS :=
  (seqS (whileS (truT (varF 1)) (parS 0 1 (consF (varF 1) (consF (binE modG (biE intB (consF (varF 0) nilF)) (varF 1)) nilF))))
    (retS (iteV (cmpT gtG (varF 0) (int! 0)) (varF 0) (negE (varF 0)))))
theorem body_law_common {P : Program} {w : World} {G : Gr} {base : Heap} {f : Addr} {cdv : Value} {A : Around} {outer : List PySem.Env} {s : Shared} {H : Hp} {E : XK} {k  : Nat}  (b_int : G.mg "int" = none)  
    (hr : Room k (FX P w G base N_law_common "_law_common" st_law_common f (cdv) A outer s H E).A) : PSs (FX P w G base N_law_common "_law_common" st_law_common f (cdv) A outer s H E) (defBody st_law_common) (tS G (WEx E) (fs_law_common )) := by
  exact (ss_cons (s_while poF (tt (xv 1)) (ss_one (spar 0 1 sc_law_common.nd (xcons (xv 1) (xcons (xbin omod (xcT bf_int b_int (xcons (xv 0) xnil)) (xv 1)) xnil)))))
    (ss_one (s_ret (xife (tcmp ogt bl_gt (xv 0) xi) (xv 0) (xneg (xv 0))))))
abbrev st_law_made : Stmt := top 55
abbrev N_law_made : List Str := ["over", "under", "common"]
abbrev P_law_made : List Str := ["over", "under"]
theorem sc_law_made : FnScope N_law_made P_law_made (defScope st_law_made) := ⟨by kernel_rfl, by kernel_rfl, by kernel_rfl, by decide +kernel, by kernel_rfl, by decide +kernel, by decide +kernel⟩
def fs_law_made (c_law_common : Ct) : FS :=
  (seqS (setS 2 (callE c_law_common (consF (varF 0) (consF (varF 1) nilF))))
    (seqS (setS 2 (iteV (cmpT gtG (varF 1) (int! 0)) (varF 2) (negE (varF 2))))
    (retS (tupE (consF (binE fdivG (varF 0) (varF 2)) (consF (binE fdivG (varF 1) (varF 2)) nilF))))))
theorem body_law_made {P : Program} {w : World} {G : Gr} {base : Heap} {f : Addr} {cdv : Value} {A : Around} {outer : List PySem.Env} {s : Shared} {H : Hp} {E : XK} {k k_law_common : Nat} {c_law_common : Ct}  (h_law_common : Has P w G base "_law_common" P_law_common k_law_common c_law_common) (s_law_common : Ct.sized c_law_common P_law_common.length) (l_law_common : k_law_common ≤ k) 
    (hr : Room k (FX P w G base N_law_made "_law_made" st_law_made f (cdv) A outer s H E).A) : PSs (FX P w G base N_law_made "_law_made" st_law_made f (cdv) A outer s H E) (defBody st_law_made) (tS G (WEx E) (fs_law_made c_law_common)) := by
  exact (ss_cons (sset 2 sc_law_made.nd (xfn h_law_common s_law_common hr (by omega) tkF (xcons (xv 0) (xcons (xv 1) xnil))))
    (ss_cons (sset 2 sc_law_made.nd (xife (tcmp ogt bl_gt (xv 1) xi) (xv 2) (xneg (xv 2))))
    (ss_one (s_ret (xtup (xcons (xbin ofdiv (xv 0) (xv 2)) (xcons (xbin ofdiv (xv 1) (xv 2)) xnil)))))))
abbrev st_law_fraction : Stmt := top 59
abbrev N_law_fraction : List Str := ["cup"]
abbrev P_law_fraction : List Str := ["cup"]
theorem sc_law_fraction : FnScope N_law_fraction P_law_fraction (defScope st_law_fraction) := ⟨by kernel_rfl, by kernel_rfl, by kernel_rfl, by decide +kernel, by kernel_rfl, by decide +kernel, by decide +kernel⟩
def fs_law_fraction (c_law_made c_law_roll : Ct) : FS :=
  (retS (callE c_law_made (consF (binE subF (callE c_law_roll (consF (varF 0) (consF (int! 19) nilF))) (int! 9)) (consF (binE (addF false) (int! 1) (callE c_law_roll (consF (varF 0) (consF (int! 5) nilF)))) nilF))))
theorem body_law_fraction {P : Program} {w : World} {G : Gr} {base : Heap} {f : Addr} {cdv : Value} {A : Around} {outer : List PySem.Env} {s : Shared} {H : Hp} {E : XK} {k k_law_made k_law_roll : Nat} {c_law_made c_law_roll : Ct}  (h_law_made : Has P w G base "_law_made" P_law_made k_law_made c_law_made) (s_law_made : Ct.sized c_law_made P_law_made.length) (l_law_made : k_law_made ≤ k) (h_law_roll : Has P w G base "_law_roll" P_law_roll k_law_roll c_law_roll) (s_law_roll : Ct.sized c_law_roll P_law_roll.length) (l_law_roll : k_law_roll ≤ k) 
    (hr : Room k (FX P w G base N_law_fraction "_law_fraction" st_law_fraction f (cdv) A outer s H E).A) : PSs (FX P w G base N_law_fraction "_law_fraction" st_law_fraction f (cdv) A outer s H E) (defBody st_law_fraction) (tS G (WEx E) (fs_law_fraction c_law_made c_law_roll)) := by
  exact (ss_one (s_ret (xfn h_law_made s_law_made hr (by omega) tkF (xcons (xbin osub (xfn h_law_roll s_law_roll hr (by omega) tkF (xcons (xv 0) (xcons xi xnil))) xi) (xcons (xbin (oadd false) xi (xfn h_law_roll s_law_roll hr (by omega) tkF (xcons (xv 0) (xcons xi xnil)))) xnil)))))
abbrev st_law_alike : Stmt := top 62
abbrev N_law_alike : List Str := ["one", "other", "a", "b"]
abbrev P_law_alike : List Str := ["one", "other"]
theorem sc_law_alike : FnScope N_law_alike P_law_alike (defScope st_law_alike) := ⟨by kernel_rfl, by kernel_rfl, by kernel_rfl, by decide +kernel, by kernel_rfl, by decide +kernel, by decide +kernel⟩
def fs_law_alike (c_law_alike : Ct) : FS :=
  (seqS (ifS (orF (truT (biE isiB (consF (varF 0) (consF (ty! "bool") nilF)))) (truT (biE isiB (consF (varF 1) (consF (ty! "bool") nilF))))) (retS (andV (biE isiB (consF (varF 0) (consF (ty! "bool") nilF))) (andV (biE isiB (consF (varF 1) (consF (ty! "bool") nilF))) (binE eqG (varF 0) (varF 1))))) nilS)
    (seqS (ifS (andF (truT (biE isiB (consF (varF 0) (consF (ty! "tuple") nilF)))) (truT (biE isiB (consF (varF 1) (consF (ty! "tuple") nilF))))) (retS (andV (binE eqG (biE lenB (consF (varF 0) nilF)) (biE lenB (consF (varF 1) nilF))) (binE eqG (compF false (bindF (consF (varF 0) (consF (varF 1) nilF)) zipI) (.tup [(.name 2), (.name 3)]) (notF (truT (callE c_law_alike (consF (varF 2) (consF (varF 3) nilF))))) (int! 1) ([("a", 2), ("b", 3)].map (·.2))) (lstE false nilF)))) nilS)
    (retS (andV (notV (biE isiB (consF (varF 0) (consF (ty! "tuple") nilF)))) (andV (notV (biE isiB (consF (varF 1) (consF (ty! "tuple") nilF)))) (binE eqG (varF 0) (varF 1)))))))
theorem body_law_alike {P : Program} {w : World} {G : Gr} {base : Heap} {f : Addr} {cdv : Value} {A : Around} {outer : List PySem.Env} {s : Shared} {H : Hp} {E : XK} {k k_law_alike : Nat} {c_law_alike : Ct} (b_bool : G.mg "bool" = none) (b_isinstance : G.mg "isinstance" = none) (b_tuple : G.mg "tuple" = none) (b_len : G.mg "len" = none) (b_zip : G.mg "zip" = none) (h_law_alike : Has P w G base "_law_alike" P_law_alike k_law_alike c_law_alike) (s_law_alike : Ct.sized c_law_alike P_law_alike.length) (l_law_alike : k_law_alike ≤ k) 
    (hr : Room k (FX P w G base N_law_alike "_law_alike" st_law_alike f (cdv) A outer s H E).A) : PSs (FX P w G base N_law_alike "_law_alike" st_law_alike f (cdv) A outer s H E) (defBody st_law_alike) (tS G (WEx E) (fs_law_alike c_law_alike)) := by
  exact (ss_cons (s_if (PW.pt (wo (tt (xcB (bf_isi rfl) b_isinstance (xcons (xv 0) (xcons (xty b_bool) xnil)))) (wo1 (tt (xcB (bf_isi rfl) b_isinstance (xcons (xv 1) (xcons (xty b_bool) xnil))))))) (ss_one (s_ret (xand (xcB (bf_isi rfl) b_isinstance (xcons (xv 0) (xcons (xty b_bool) xnil))) (xand (xcB (bf_isi rfl) b_isinstance (xcons (xv 1) (xcons (xty b_bool) xnil))) (xone (xcmp (oeq hr) (xv 0) (xv 1))))))) ss_nil)
    (ss_cons (s_if (PW.pt (wa (tt (xcB (bf_isi rfl) b_isinstance (xcons (xv 0) (xcons (xty b_tuple) xnil)))) (wa1 (tt (xcB (bf_isi rfl) b_isinstance (xcons (xv 1) (xcons (xty b_tuple) xnil))))))) (ss_one (s_ret (xand (xcmp (oeq hr) (xcB (bf_len rfl) b_len (xcons (xv 0) xnil)) (xcB (bf_len rfl) b_len (xcons (xv 1) xnil))) (xone (xcmp (oeq hr) (xlc false [("a", 2), ("b", 3)] sc_law_alike.nd (izip b_zip (xcons (xv 0) (xcons (xv 1) xnil))) (gtupF (gconsF (gnameF 2 (fun _ => sc_law_alike.nd)) (gconsF (gnameF 3 (fun _ => sc_law_alike.nd)) gnilF))) (fun _ => ts_one (tnot (tt (xfn h_law_alike s_law_alike hr (by omega) LamX.takes0 (xcons (xv 2) (xcons (xv 3) xnil)))))) (fun _ => xi)) (xlst false xnil)))))) ss_nil)
    (ss_one (s_ret (xand (xnot (xcB (bf_isi rfl) b_isinstance (xcons (xv 0) (xcons (xty b_tuple) xnil)))) (xand (xnot (xcB (bf_isi rfl) b_isinstance (xcons (xv 1) (xcons (xty b_tuple) xnil)))) (xone (xcmp (oeq hr) (xv 0) (xv 1)))))))))
abbrev sttotal_degree : Stmt := top 46
abbrev Ntotal_degree : List Str := ["surface"]
abbrev Ptotal_degree : List Str := ["surface"]
theorem sctotal_degree : FnScope Ntotal_degree Ptotal_degree (defScope sttotal_degree) := ⟨by kernel_rfl, by kernel_rfl, by kernel_rfl, by decide +kernel, by kernel_rfl, by decide +kernel, by decide +kernel⟩
def fstotal_degree (cneed_surface cdegree_in : Ct) : FS :=
  (seqS (exprS (callE cneed_surface (consF (varF 0) nilF)))
    (retS (callE cdegree_in (consF (varF 0) nilF))))
theorem bodytotal_degree {P : Program} {w : World} {G : Gr} {base : Heap} {f : Addr} {cdv : Value} {A : Around} {outer : List PySem.Env} {s : Shared} {H : Hp} {E : XK} {k kneed_surface kdegree_in : Nat} {cneed_surface cdegree_in : Ct}  (hneed_surface : Has P w G base "need_surface" Pneed_surface kneed_surface cneed_surface) (sneed_surface : Ct.sized cneed_surface Pneed_surface.length) (lneed_surface : kneed_surface ≤ k) (hdegree_in : Has P w G base "degree_in" Pdegree_in kdegree_in cdegree_in) (sdegree_in : Ct.sized cdegree_in Pdegree_in.length) (ldegree_in : kdegree_in ≤ k) 
    (hr : Room k (FX P w G base Ntotal_degree "total_degree" sttotal_degree f (cdv) A outer s H E).A) : PSs (FX P w G base Ntotal_degree "total_degree" sttotal_degree f (cdv) A outer s H E) (defBody sttotal_degree) (tS G (WEx E) (fstotal_degree cneed_surface cdegree_in)) := by
  exact (ss_cons (sexpr (xfn hneed_surface sneed_surface hr (by omega) tkF (xcons (xv 0) xnil)))
    (ss_one (s_ret (xfn hdegree_in sdegree_in hr (by omega) tkF (xcons (xv 0) xnil)))))
abbrev st_law_plus : Stmt := top 56
abbrev N_law_plus : List Str := ["one", "other"]
abbrev P_law_plus : List Str := ["one", "other"]
theorem sc_law_plus : FnScope N_law_plus P_law_plus (defScope st_law_plus) := ⟨by kernel_rfl, by kernel_rfl, by kernel_rfl, by decide +kernel, by kernel_rfl, by decide +kernel, by decide +kernel⟩
def fs_law_plus (c_law_made : Ct) : FS :=
  (retS (callE c_law_made (consF (binE (addF false) (binE (mulF false) (idxE (varF 0) (int! 0)) (idxE (varF 1) (int! 1))) (binE (mulF false) (idxE (varF 1) (int! 0)) (idxE (varF 0) (int! 1)))) (consF (binE (mulF false) (idxE (varF 0) (int! 1)) (idxE (varF 1) (int! 1))) nilF))))
theorem body_law_plus {P : Program} {w : World} {G : Gr} {base : Heap} {f : Addr} {cdv : Value} {A : Around} {outer : List PySem.Env} {s : Shared} {H : Hp} {E : XK} {k k_law_made : Nat} {c_law_made : Ct}  (h_law_made : Has P w G base "_law_made" P_law_made k_law_made c_law_made) (s_law_made : Ct.sized c_law_made P_law_made.length) (l_law_made : k_law_made ≤ k) 
    (hr : Room k (FX P w G base N_law_plus "_law_plus" st_law_plus f (cdv) A outer s H E).A) : PSs (FX P w G base N_law_plus "_law_plus" st_law_plus f (cdv) A outer s H E) (defBody st_law_plus) (tS G (WEx E) (fs_law_plus c_law_made)) := by
  exact (ss_one (s_ret (xfn h_law_made s_law_made hr (by omega) tkF (xcons (xbin (oadd false) (xbin (omul false) (xix (xv 0) xi) (xix (xv 1) xi)) (xbin (omul false) (xix (xv 1) xi) (xix (xv 0) xi))) (xcons (xbin (omul false) (xix (xv 0) xi) (xix (xv 1) xi)) xnil)))))
abbrev st_law_times : Stmt := top 57
abbrev N_law_times : List Str := ["one", "other"]
abbrev P_law_times : List Str := ["one", "other"]
theorem sc_law_times : FnScope N_law_times P_law_times (defScope st_law_times) := ⟨by kernel_rfl, by kernel_rfl, by kernel_rfl, by decide +kernel, by kernel_rfl, by decide +kernel, by decide +kernel⟩
def fs_law_times (c_law_made : Ct) : FS :=
  (retS (callE c_law_made (consF (binE (mulF false) (idxE (varF 0) (int! 0)) (idxE (varF 1) (int! 0))) (consF (binE (mulF false) (idxE (varF 0) (int! 1)) (idxE (varF 1) (int! 1))) nilF))))
theorem body_law_times {P : Program} {w : World} {G : Gr} {base : Heap} {f : Addr} {cdv : Value} {A : Around} {outer : List PySem.Env} {s : Shared} {H : Hp} {E : XK} {k k_law_made : Nat} {c_law_made : Ct}  (h_law_made : Has P w G base "_law_made" P_law_made k_law_made c_law_made) (s_law_made : Ct.sized c_law_made P_law_made.length) (l_law_made : k_law_made ≤ k) 
    (hr : Room k (FX P w G base N_law_times "_law_times" st_law_times f (cdv) A outer s H E).A) : PSs (FX P w G base N_law_times "_law_times" st_law_times f (cdv) A outer s H E) (defBody st_law_times) (tS G (WEx E) (fs_law_times c_law_made)) := by
  exact (ss_one (s_ret (xfn h_law_made s_law_made hr (by omega) tkF (xcons (xbin (omul false) (xix (xv 0) xi) (xix (xv 1) xi)) (xcons (xbin (omul false) (xix (xv 0) xi) (xix (xv 1) xi)) xnil)))))
abbrev st_law_value_at : Stmt := top 60
abbrev N_law_value_at : List Str := ["surface", "x", "y", "found", "i", "j", "own", "more", "turn"]
abbrev P_law_value_at : List Str := ["surface", "x", "y"]
theorem sc_law_value_at : FnScope N_law_value_at P_law_value_at (defScope st_law_value_at) := ⟨by kernel_rfl, by kernel_rfl, by kernel_rfl, by decide +kernel, by kernel_rfl, by decide +kernel, by decide +kernel⟩
def fs_law_value_at (c_law_times c_law_plus : Ct) : FS :=
  (seqS (setS 3 (tupE (consF (int! 0) (consF (int! 1) nilF))))
    (seqS (forS (itE (varF 0)) (.tup [(.tup [(.name 4), (.name 5)]), (.name 6)]) (seqS (setS 7 (tupE (consF (varF 6) (consF (int! 1) nilF))))
    (seqS (forS (bindF (consF (varF 4) nilF) rng1) (.name 8) (setS 7 (callE c_law_times (consF (varF 7) (consF (varF 1) nilF)))))
    (seqS (forS (bindF (consF (varF 5) nilF) rng1) (.name 8) (setS 7 (callE c_law_times (consF (varF 7) (consF (varF 2) nilF)))))
    (setS 3 (callE c_law_plus (consF (varF 3) (consF (varF 7) nilF))))))))
    (retS (varF 3))))
theorem body_law_value_at {P : Program} {w : World} {G : Gr} {base : Heap} {f : Addr} {cdv : Value} {A : Around} {outer : List PySem.Env} {s : Shared} {H : Hp} {E : XK} {k k_law_times k_law_plus : Nat} {c_law_times c_law_plus : Ct} (b_range : G.mg "range" = none) (h_law_times : Has P w G base "_law_times" P_law_times k_law_times c_law_times) (s_law_times : Ct.sized c_law_times P_law_times.length) (l_law_times : k_law_times ≤ k) (h_law_plus : Has P w G base "_law_plus" P_law_plus k_law_plus c_law_plus) (s_law_plus : Ct.sized c_law_plus P_law_plus.length) (l_law_plus : k_law_plus ≤ k) 
    (hr : Room k (FX P w G base N_law_value_at "_law_value_at" st_law_value_at f (cdv) A outer s H E).A) : PSs (FX P w G base N_law_value_at "_law_value_at" st_law_value_at f (cdv) A outer s H E) (defBody st_law_value_at) (tS G (WEx E) (fs_law_value_at c_law_times c_law_plus)) := by
  exact (ss_cons (sset 3 sc_law_value_at.nd (xtup (xcons xi (xcons xi xnil))))
    (ss_cons (sfor poF (ival (xv 0)) (gtup (gcons (gtup (gcons (gname 4 sc_law_value_at.nd) (gcons (gname 5 sc_law_value_at.nd) gs_nil))) (gcons (gname 6 sc_law_value_at.nd) gs_nil))) (ss_cons (sset 7 sc_law_value_at.nd (xtup (xcons (xv 6) (xcons xi xnil))))
    (ss_cons (sfor poF (irng1 b_range (xcons (xv 4) xnil)) (gname 8 sc_law_value_at.nd) (ss_one (sset 7 sc_law_value_at.nd (xfn h_law_times s_law_times hr (by omega) tkF (xcons (xv 7) (xcons (xv 1) xnil))))))
    (ss_cons (sfor poF (irng1 b_range (xcons (xv 5) xnil)) (gname 8 sc_law_value_at.nd) (ss_one (sset 7 sc_law_value_at.nd (xfn h_law_times s_law_times hr (by omega) tkF (xcons (xv 7) (xcons (xv 2) xnil))))))
    (ss_one (sset 3 sc_law_value_at.nd (xfn h_law_plus s_law_plus hr (by omega) tkF (xcons (xv 3) (xcons (xv 7) xnil)))))))))
    (ss_one (s_ret (xv 3)))))
abbrev st_law_line : Stmt := top 64
abbrev N_law_line : List Str := ["surface", "x", "row", "i", "j", "own", "more", "turn", "under", "common", "whole"]
abbrev P_law_line : List Str := ["surface", "x"]
theorem sc_law_line : FnScope N_law_line P_law_line (defScope st_law_line) := ⟨by kernel_rfl, by kernel_rfl, by kernel_rfl, by decide +kernel, by kernel_rfl, by decide +kernel, by decide +kernel⟩
def fs_law_line (c_law_times c_law_plus c_law_common : Ct) : FS :=
  (seqS (setS 2 (binE (mulF true) (lstE false (consF (tupE (consF (int! 0) (consF (int! 1) nilF))) nilF)) (int! 5)))
    (seqS (forS (itE (varF 0)) (.tup [(.tup [(.name 3), (.name 4)]), (.name 5)]) (seqS (setS 6 (tupE (consF (varF 5) (consF (int! 1) nilF))))
    (seqS (forS (bindF (consF (varF 3) nilF) rng1) (.name 7) (setS 6 (callE c_law_times (consF (varF 6) (consF (varF 1) nilF)))))
    (subS (callE c_law_plus (consF (idxE (varF 2) (varF 4)) (consF (varF 6) nilF))) (varF 2) (varF 4)))))
    (seqS (whileS (andF (cmpT neG (varF 2) (lstE false nilF)) (cmpT eqG (idxE (idxE (varF 2) (negE (int! 1))) (int! 0)) (int! 0))) (setS 2 (slcE false (varF 2) noF (someI (negE (int! 1))))))
    (seqS (asgS (.tup [(.name 8), (.name 9)]) (tupE (consF (int! 1) (consF (int! 0) nilF))))
    (seqS (forS (itE (varF 2)) (.name 5) (setS 8 (binE (mulF false) (varF 8) (idxE (varF 5) (int! 1)))))
    (seqS (setS 10 (compF false (itE (varF 2)) (.name 5) (retF true) (binE fdivG (binE (mulF false) (idxE (varF 5) (int! 0)) (varF 8)) (idxE (varF 5) (int! 1))) ([("own", 5)].map (·.2))))
    (seqS (forS (itE (varF 10)) (.name 5) (setS 9 (callE c_law_common (consF (varF 9) (consF (varF 5) nilF)))))
    (seqS (setS 9 (iteV (orF (cmpT eqG (varF 10) (lstE false nilF)) (cmpT gtG (idxE (varF 10) (negE (int! 1))) (int! 0))) (varF 9) (negE (varF 9))))
    (retS (biE tupB (consF (compF false (itE (varF 10)) (.name 5) (retF true) (binE fdivG (varF 5) (varF 9)) ([("own", 5)].map (·.2))) nilF)))))))))))
theorem body_law_line {P : Program} {w : World} {G : Gr} {base : Heap} {f : Addr} {cdv : Value} {A : Around} {outer : List PySem.Env} {s : Shared} {H : Hp} {E : XK} {k k_law_times k_law_plus k_law_common : Nat} {c_law_times c_law_plus c_law_common : Ct} (b_range : G.mg "range" = none) (b_tuple : G.mg "tuple" = none) (h_law_times : Has P w G base "_law_times" P_law_times k_law_times c_law_times) (s_law_times : Ct.sized c_law_times P_law_times.length) (l_law_times : k_law_times ≤ k) (h_law_plus : Has P w G base "_law_plus" P_law_plus k_law_plus c_law_plus) (s_law_plus : Ct.sized c_law_plus P_law_plus.length) (l_law_plus : k_law_plus ≤ k) (h_law_common : Has P w G base "_law_common" P_law_common k_law_common c_law_common) (s_law_common : Ct.sized c_law_common P_law_common.length) (l_law_common : k_law_common ≤ k) 
    (hr : Room k (FX P w G base N_law_line "_law_line" st_law_line f (cdv) A outer s H E).A) : PSs (FX P w G base N_law_line "_law_line" st_law_line f (cdv) A outer s H E) (defBody st_law_line) (tS G (WEx E) (fs_law_line c_law_times c_law_plus c_law_common)) := by
  exact (ss_cons (sset 2 sc_law_line.nd (xbin (omul true) (xlst false (xcons (xtup (xcons xi (xcons xi xnil))) xnil)) xi))
    (ss_cons (sfor poF (ival (xv 0)) (gtup (gcons (gtup (gcons (gname 3 sc_law_line.nd) (gcons (gname 4 sc_law_line.nd) gs_nil))) (gcons (gname 5 sc_law_line.nd) gs_nil))) (ss_cons (sset 6 sc_law_line.nd (xtup (xcons (xv 5) (xcons xi xnil))))
    (ss_cons (sfor poF (irng1 b_range (xcons (xv 3) xnil)) (gname 7 sc_law_line.nd) (ss_one (sset 6 sc_law_line.nd (xfn h_law_times s_law_times hr (by omega) tkF (xcons (xv 6) (xcons (xv 1) xnil))))))
    (ss_one (sub' (xfn h_law_plus s_law_plus hr (by omega) tkF (xcons (xix (xv 2) (xv 4)) (xcons (xv 6) xnil))) (xv 2) (xv 4))))))
    (ss_cons (s_while poF (PW.pt (wa (tcmp (one' hr) bl_ne (xv 2) (xlst false xnil)) (wa1 (tcmp (oeq hr) bl_eq (xix (xix (xv 2) (xneg xi)) xi) xi)))) (ss_one (sset 2 sc_law_line.nd (xsl false (xv 2) on (os (xneg xi))))))
    (ss_cons (sasg (xtup (xcons xi (xcons xi xnil))) (gtup (gcons (gname 8 sc_law_line.nd) (gcons (gname 9 sc_law_line.nd) gs_nil))))
    (ss_cons (sfor poF (ival (xv 2)) (gname 5 sc_law_line.nd) (ss_one (sset 8 sc_law_line.nd (xbin (omul false) (xv 8) (xix (xv 5) xi)))))
    (ss_cons (ssetlc 10 false [("own", 5)] sc_law_line.nd (ival (xv 2)) (gnameF 5 (fun _ => sc_law_line.nd)) (fun _ => ts_nil) (fun _ => (xbin ofdiv (xbin (omul false) (xix (xv 5) xi) (xv 8)) (xix (xv 5) xi))))
    (ss_cons (sfor poF (ival (xv 10)) (gname 5 sc_law_line.nd) (ss_one (sset 9 sc_law_line.nd (xfn h_law_common s_law_common hr (by omega) tkF (xcons (xv 9) (xcons (xv 5) xnil))))))
    (ss_cons (sset 9 sc_law_line.nd (xife (PW.pt (wo (tcmp (oeq hr) bl_eq (xv 10) (xlst false xnil)) (wo1 (tcmp ogt bl_gt (xix (xv 10) (xneg xi)) xi)))) (xv 9) (xneg (xv 9))))
    (ss_one (s_ret (xcT (bf_tup rfl) b_tuple (xcons (xlc false [("own", 5)] sc_law_line.nd (ival (xv 10)) (gnameF 5 (fun _ => sc_law_line.nd)) (fun _ => ts_nil) (fun _ => (xbin ofdiv (xv 5) (xv 9)))) xnil))))))))))))
abbrev stlaw : Stmt := top 65
abbrev Nlaw : List Str := ["script", "cup", "turn", "surface", "x", "y", "degree", "other", "small", "circle", "flat", "odd", "more", "words", "i", "j", "own", "powers", "one"]
abbrev Plaw : List Str := ["script"]
theorem sclaw : FnScope Nlaw Plaw (defScope stlaw) := ⟨by kernel_rfl, by kernel_rfl, by kernel_rfl, by decide +kernel, by kernel_rfl, by decide +kernel, by decide +kernel⟩
def fslaw_0 (c_law_drawn c_law_fraction : Ct) : FS :=
  (par3S 3 4 5 (consF (callE c_law_drawn (consF (varF 1) nilF)) (consF (callE c_law_fraction (consF (varF 1) nilF)) (consF (callE c_law_fraction (consF (varF 1) nilF)) nilF))))
def fslaw_1 : FS :=
  (setS 6 (biE maxB (consF (binE (addF false) (lstE false (consF (negE (int! 1)) nilF)) (compF false (itE (varF 3)) (.tup [(.tup [(.name 14), (.name 15)]), (.name 16)]) (retF true) (binE (addF false) (varF 14) (varF 15)) ([("own", 16), ("i", 14), ("j", 15)].map (·.2)))) nilF)))
def fslaw_2 (c_law_alike cvalue_at c_law_value_at : Ct) : FS :=
  (ifS (notF (truT (callE c_law_alike (consF (callE cvalue_at (consF (varF 3) (consF (varF 4) (consF (varF 5) nilF)))) (consF (callE c_law_value_at (consF (varF 3) (consF (varF 4) (consF (varF 5) nilF)))) nilF))))) (retS (bl! false)) nilS)
def fslaw_3 (c_law_alike cline_on c_law_line : Ct) : FS :=
  (ifS (notF (truT (callE c_law_alike (consF (callE cline_on (consF (varF 3) (consF (varF 4) nilF))) (consF (callE c_law_line (consF (varF 3) (consF (varF 4) nilF))) nilF))))) (retS (bl! false)) nilS)
def fslaw_4 (c_law_alike : Ct) : FS :=
  (ifS (notF (truT (callE c_law_alike (consF (varF 7) (consF (biE tupB (consF (biE (sortB false) (consF (compF false (itE (varF 3)) (.tup [(.tup [(.name 14), (.name 15)]), (.name 16)]) (retF true) (tupE (consF (tupE (consF (varF 15) (consF (varF 14) nilF))) (consF (varF 16) nilF))) ([("own", 16), ("i", 14), ("j", 15)].map (·.2))) nilF)) nilF)) nilF))))) (retS (bl! false)) nilS)
def fslaw_5 : FS :=
  (setS 8 (binE eqG (compF false (itE (varF 3)) (.tup [(.name 17), (.name 16)]) (cmpT gtG (varF 16) (int! 1000)) (varF 16) ([("powers", 17), ("own", 16)].map (·.2))) (lstE false nilF)))
def fslaw_6 (c_law_drawn c_law_fraction c_law_alike ctotal_degree cvalue_at c_law_value_at cline_on c_law_line cturned cis_curve : Ct) : FS :=
  (forS (bindF (consF (int! 6) nilF) rng1) (.name 2) (seqS (fslaw_0 c_law_drawn c_law_fraction)
    (seqS fslaw_1
    (seqS (ifS (notF (truT (callE c_law_alike (consF (callE ctotal_degree (consF (varF 3) nilF)) (consF (varF 6) nilF))))) (retS (bl! false)) nilS)
    (seqS (fslaw_2 c_law_alike cvalue_at c_law_value_at)
    (seqS (fslaw_3 c_law_alike cline_on c_law_line)
    (seqS (setS 7 (callE cturned (consF (varF 3) nilF)))
    (seqS (fslaw_4 c_law_alike)
    (seqS (ifS (cmpT neG (callE cturned (consF (varF 7) nilF)) (varF 3)) (retS (bl! false)) nilS)
    (seqS fslaw_5
    (ifS (cmpT neG (callE cis_curve (consF (varF 3) nilF)) (andV (chF leG leG (int! 1) (varF 6) (int! 3)) (varF 8))) (retS (bl! false)) nilS)))))))))))
def fslaw_7 : FS :=
  (asgS (.tup [(.name 9), (.name 10)]) (tupE (consF (tupE (consF (tupE (consF (tupE (consF (int! 0) (consF (int! 0) nilF))) (consF (negE (int! 2)) nilF))) (consF (tupE (consF (tupE (consF (int! 0) (consF (int! 2) nilF))) (consF (int! 1) nilF))) (consF (tupE (consF (tupE (consF (int! 2) (consF (int! 0) nilF))) (consF (int! 1) nilF))) nilF)))) (consF (tupE (consF (tupE (consF (tupE (consF (int! 0) (consF (int! 1) nilF))) (consF (negE (int! 1)) nilF))) (consF (tupE (consF (tupE (consF (int! 1) (consF (int! 0) nilF))) (consF (int! 1) nilF))) nilF))) nilF))))
def fslaw_8 (cis_curve ctotal_degree cline_on : Ct) : FS :=
  (ifS (orF (cmpT isnG (callE cis_curve (consF (varF 9) nilF)) (bl! true)) (orF (cmpT neG (callE ctotal_degree (consF (varF 9) nilF)) (int! 2)) (cmpT neG (callE cline_on (consF (varF 9) (consF (tupE (consF (int! 1) (consF (int! 2) nilF))) nilF))) (tupE (consF (negE (int! 7)) (consF (int! 0) (consF (int! 4) nilF))))))) (retS (bl! false)) nilS)
def fslaw_9 (cvalue_at : Ct) : FS :=
  (ifS (cmpT neG (callE cvalue_at (consF (varF 9) (consF (tupE (consF (int! 1) (consF (int! 2) nilF))) (consF (tupE (consF (negE (int! 1)) (consF (int! 1) nilF))) nilF)))) (tupE (consF (negE (int! 3)) (consF (int! 4) nilF)))) (retS (bl! false)) nilS)
def fslaw_10 (cturned ctotal_degree : Ct) : FS :=
  (ifS (orF (cmpT neG (callE cturned (consF (varF 10) nilF)) (tupE (consF (tupE (consF (tupE (consF (int! 0) (consF (int! 1) nilF))) (consF (int! 1) nilF))) (consF (tupE (consF (tupE (consF (int! 1) (consF (int! 0) nilF))) (consF (negE (int! 1)) nilF))) nilF)))) (cmpT neG (callE ctotal_degree (consF (tupE nilF) nilF)) (negE (int! 1)))) (retS (bl! false)) nilS)
def fslaw_11 (cline_on : Ct) : FS :=
  (ifS (cmpT neG (callE cline_on (consF (tupE (consF (tupE (consF (tupE (consF (int! 1) (consF (int! 0) nilF))) (consF (int! 2) nilF))) nilF)) (consF (tupE (consF (int! 0) (consF (int! 1) nilF))) nilF))) (tupE nilF)) (retS (bl! false)) nilS)
def fslaw_12 : FS :=
  (setS 11 (tupE (consF non! (consF (tupE nilF) (consF (tupE (consF (tupE (consF (tupE (consF (int! 0) (consF (int! 0) nilF))) (consF (int! 1) nilF))) nilF)) (consF (tupE (consF (tupE (consF (tupE (consF (int! 0) (consF (int! 4) nilF))) (consF (int! 1) nilF))) nilF)) (consF (tupE (consF (tupE (consF (tupE (consF (int! 1) (consF (int! 0) nilF))) (consF (int! 1001) nilF))) nilF)) nilF)))))))
def fslaw_13 : FS :=
  (setS 11 (binE (addF false) (varF 11) (tupE (consF (tupE (consF (tupE (consF (tupE (consF (int! 1) (consF (int! 0) nilF))) (consF (bl! true) nilF))) nilF)) (consF (lstE false (consF (tupE (consF (tupE (consF (int! 1) (consF (int! 0) nilF))) (consF (int! 1) nilF))) nilF)) (consF (tupE (consF (tupE (consF (tupE (consF (int! 1) (consF (int! 0) nilF))) (consF (int! 1) nilF))) (consF (tupE (consF (tupE (consF (int! 0) (consF (int! 1) nilF))) (consF (int! 1) nilF))) nilF))) nilF))))))
def fslaw_14 : FS :=
  (setS 12 (tupE (consF (tupE (consF (tupE (consF (tupE (consF (int! 1) (consF (int! 0) nilF))) (consF (negE (int! 1001)) nilF))) nilF)) (consF (tupE (consF (tupE (consF (tupE (consF (int! 1) (consF (int! 0) nilF))) (consF (int! 0) nilF))) nilF)) (consF (tupE (consF (tupE (consF (tupE (consF (int! 1) (consF (int! 0) nilF))) (consF (int! 1) nilF))) (consF (tupE (consF (tupE (consF (int! 1) (consF (int! 0) nilF))) (consF (int! 2) nilF))) nilF))) nilF)))))
def fslaw_15 (cis_curve : Ct) : FS :=
  (ifS (cmpT neG (compF false (itE (binE (addF false) (varF 11) (varF 12))) (.name 18) (cmpT isnG (callE cis_curve (consF (varF 18) nilF)) (bl! false)) (varF 18) ([("one", 18)].map (·.2))) (lstE false nilF)) (retS (bl! false)) nilS)
def fslaw_16 (cis_curve : Ct) : FS :=
  (ifS (cmpT isnG (callE cis_curve (consF (tupE (consF (tupE (consF (tupE (consF (int! 0) (consF (int! 1) nilF))) (consF (negE (int! 1000)) nilF))) (consF (tupE (consF (tupE (consF (int! 3) (consF (int! 0) nilF))) (consF (int! 1000) nilF))) nilF))) nilF)) (bl! true)) (retS (bl! false)) nilS)
def fslaw_17 (cvalue_at : Ct) : FS :=
  (setS 13 (compF false (itE (binE (addF false) (slcE false (varF 11) noF (someI (int! 1))) (slcE false (varF 11) (someI (int! 5)) noF))) (.name 18) (retF true) (lamF w_law_error "" (callE cvalue_at (consF (varF 18) (consF non! (consF non! nilF))))) ([("one", 18)].map (·.2))))
def fslaw_18 (cline_on : Ct) : FS :=
  (setS 13 (binE (addF false) (varF 13) (compF false (itE (tupE (consF non! (consF (tupE (consF (int! 1) (consF (int! 0) nilF))) (consF (tupE (consF (int! 2) (consF (int! 4) nilF))) (consF (tupE (consF (binE (addF false) (binE powG (int! 10) (int! 12)) (int! 1)) (consF (int! 1) nilF))) nilF)))))) (.name 18) (retF true) (lamF w_law_error "" (callE cline_on (consF (varF 9) (consF (varF 18) nilF)))) ([("one", 18)].map (·.2)))))
def fslaw_19 (cvalue_at : Ct) : FS :=
  (setS 13 (binE (addF false) (varF 13) (compF false (itE (tupE (consF non! (consF (int! 1) (consF (tupE (consF (bl! true) (consF (int! 1) nilF))) (consF (tupE (consF (int! 1) (consF (binE (addF false) (binE powG (int! 10) (int! 12)) (int! 1)) nilF))) nilF)))))) (.name 18) (retF true) (lamF w_law_error "" (callE cvalue_at (consF (varF 9) (consF (tupE (consF (int! 1) (consF (int! 1) nilF))) (consF (varF 18) nilF))))) ([("one", 18)].map (·.2)))))
def fslaw_20 (cturned : Ct) : FS :=
  (setS 13 (binE (addF false) (varF 13) (compF false (itE (tupE (consF non! (consF (int! 0) nilF)))) (.name 18) (retF true) (lamF w_law_error "" (callE cturned (consF (varF 18) nilF))) ([("one", 18)].map (·.2)))))
def fslaw_21 (cvalue_at : Ct) : FS :=
  (setS 13 (binE (addF true) (varF 13) (compF false (itE (tupE (consF non! (consF (tupE (consF (int! 2) (consF (int! 4) nilF))) (consF (lstE false (consF (int! 1) (consF (int! 1) nilF))) nilF))))) (.name 18) (retF true) (lamF w_law_error "" (callE cvalue_at (consF (varF 9) (consF (varF 18) (consF (tupE (consF (int! 1) (consF (int! 1) nilF))) nilF))))) ([("one", 18)].map (·.2)))))
def fslaw_22 : FS :=
  (retS (binE eqG (varF 13) (binE (addF false) (binE (addF false) (binE (addF false) (binE (addF false) (binE (mulF false) (lstE false (consF (str! "surface") nilF)) (int! 4)) (binE (mulF false) (lstE false (consF (str! "fraction") nilF)) (int! 8))) (binE (mulF false) (lstE false (consF (str! "surface") nilF)) (int! 2))) (binE (mulF false) (lstE false (consF (str! "fraction") nilF)) (int! 3))) (binE (mulF false) (lstE false (consF (str! "surface") nilF)) (int! 2)))))
def fslaw (c_law_cup c_law_fraction c_law_drawn c_law_alike ctotal_degree c_law_value_at cvalue_at c_law_line cline_on cturned cis_curve : Ct) : FS :=
  (seqS (setS 1 (callE c_law_cup (consF (varF 0) nilF)))
    (seqS (fslaw_6 c_law_drawn c_law_fraction c_law_alike ctotal_degree cvalue_at c_law_value_at cline_on c_law_line cturned cis_curve)
    (seqS fslaw_7
    (seqS (fslaw_8 cis_curve ctotal_degree cline_on)
    (seqS (fslaw_9 cvalue_at)
    (seqS (fslaw_10 cturned ctotal_degree)
    (seqS (fslaw_11 cline_on)
    (seqS fslaw_12
    (seqS fslaw_13
    (seqS fslaw_14
    (seqS (fslaw_15 cis_curve)
    (seqS (fslaw_16 cis_curve)
    (seqS (fslaw_17 cvalue_at)
    (seqS (fslaw_18 cline_on)
    (seqS (fslaw_19 cvalue_at)
    (seqS (fslaw_20 cturned)
    (seqS (fslaw_21 cvalue_at)
    (seqS (exprS (appE (varF 13) (lamF w_law_error "" (callE ctotal_degree (consF non! nilF)))))
    (seqS (exprS (appE (varF 13) (lamF w_law_error "" (callE cline_on (consF non! (consF (tupE (consF (int! 1) (consF (int! 1) nilF))) nilF))))))
    fslaw_22)))))))))))))))))))
theorem bodylaw {P : Program} {w : World} {G : Gr} {base : Heap} {f : Addr} {cc PT : Addr} {A : Around} {outer : List PySem.Env} {s : Shared} {H : Hp} {E : XK} {k k_law_cup k_law_fraction k_law_drawn k_law_alike ktotal_degree k_law_value_at kvalue_at k_law_line kline_on kturned kis_curve : Nat} {c_law_cup c_law_fraction c_law_drawn c_law_alike ctotal_degree c_law_value_at cvalue_at c_law_line cline_on cturned cis_curve : Ct} (b_range : G.mg "range" = none) (b_max : G.mg "max" = none) (b_sorted : G.mg "sorted" = none) (b_tuple : G.mg "tuple" = none) (T_law_error : Teller G "_law_error" st_law_error w_law_error hs_law_error) (TB : LamX.TabB base G.mg cc PT) (hmT : (PT, ("law" : Str) ++ ".<locals>." ++ "<lambda>") ∈ G.T) (hu : ∀ p ∈ G.T, p.1 = PT → p.2 = ("law" : Str) ++ ".<locals>." ++ "<lambda>") (h_law_cup : Has P w G base "_law_cup" P_law_cup k_law_cup c_law_cup) (s_law_cup : Ct.sized c_law_cup P_law_cup.length) (l_law_cup : k_law_cup + 2 ≤ k) (h_law_fraction : Has P w G base "_law_fraction" P_law_fraction k_law_fraction c_law_fraction) (s_law_fraction : Ct.sized c_law_fraction P_law_fraction.length) (l_law_fraction : k_law_fraction + 2 ≤ k) (h_law_drawn : Has P w G base "_law_drawn" P_law_drawn k_law_drawn c_law_drawn) (s_law_drawn : Ct.sized c_law_drawn P_law_drawn.length) (l_law_drawn : k_law_drawn + 2 ≤ k) (h_law_alike : Has P w G base "_law_alike" P_law_alike k_law_alike c_law_alike) (s_law_alike : Ct.sized c_law_alike P_law_alike.length) (l_law_alike : k_law_alike + 2 ≤ k) (htotal_degree : Has P w G base "total_degree" Ptotal_degree ktotal_degree ctotal_degree) (stotal_degree : Ct.sized ctotal_degree Ptotal_degree.length) (ltotal_degree : ktotal_degree + 2 ≤ k) (h_law_value_at : Has P w G base "_law_value_at" P_law_value_at k_law_value_at c_law_value_at) (s_law_value_at : Ct.sized c_law_value_at P_law_value_at.length) (l_law_value_at : k_law_value_at + 2 ≤ k) (hvalue_at : Has P w G base "value_at" Pvalue_at kvalue_at cvalue_at) (svalue_at : Ct.sized cvalue_at Pvalue_at.length) (lvalue_at : kvalue_at + 2 ≤ k) (h_law_line : Has P w G base "_law_line" P_law_line k_law_line c_law_line) (s_law_line : Ct.sized c_law_line P_law_line.length) (l_law_line : k_law_line + 2 ≤ k) (hline_on : Has P w G base "line_on" Pline_on kline_on cline_on) (sline_on : Ct.sized cline_on Pline_on.length) (lline_on : kline_on + 2 ≤ k) (hturned : Has P w G base "turned" Pturned kturned cturned) (sturned : Ct.sized cturned Pturned.length) (lturned : kturned + 2 ≤ k) (his_curve : Has P w G base "is_curve" Pis_curve kis_curve cis_curve) (sis_curve : Ct.sized cis_curve Pis_curve.length) (lis_curve : kis_curve + 2 ≤ k) (hk2 : 2 ≤ k) 
    (hr : Room k (FX P w G base Nlaw "law" stlaw f (.ref cc) A outer s H E).A) : PSs (FX P w G base Nlaw "law" stlaw f (.ref cc) A outer s H E) (defBody stlaw) (tS G (WEx E) (fslaw c_law_cup c_law_fraction c_law_drawn c_law_alike ctotal_degree c_law_value_at cvalue_at c_law_line cline_on cturned cis_curve)) := by
  exact (ss_cons (sset 1 sclaw.nd (xfn h_law_cup s_law_cup hr (by omega) tkF (xcons (xv 0) xnil)))
    (ss_cons (sfor poF (irng1 b_range (xcons xi xnil)) (gname 2 sclaw.nd) (ss_cons (spar3 3 4 5 sclaw.nd (xcons (xfn h_law_drawn s_law_drawn hr (by omega) tkF (xcons (xv 1) xnil)) (xcons (xfn h_law_fraction s_law_fraction hr (by omega) tkF (xcons (xv 1) xnil)) (xcons (xfn h_law_fraction s_law_fraction hr (by omega) tkF (xcons (xv 1) xnil)) xnil))))
    (ss_cons (sset 6 sclaw.nd (xcB (bf_max rfl rfl) b_max (xcons (xbin (oadd false) (xlst false (xcons (xneg xi) xnil)) (xlc false [("own", 16), ("i", 14), ("j", 15)] sclaw.nd (ival (xv 3)) (gtupF (gconsF (gtupF (gconsF (gnameF 14 (fun _ => sclaw.nd)) (gconsF (gnameF 15 (fun _ => sclaw.nd)) gnilF))) (gconsF (gnameF 16 (fun _ => sclaw.nd)) gnilF))) (fun _ => ts_nil) (fun _ => (xbin (oadd false) (xv 14) (xv 15))))) xnil)))
    (ss_cons (s_if (tnot (tt (xfn h_law_alike s_law_alike hr (by omega) tkF (xcons (xfn htotal_degree stotal_degree hr (by omega) tkF (xcons (xv 3) xnil)) (xcons (xv 6) xnil))))) (ss_one (s_ret xb)) ss_nil)
    (ss_cons (s_if (tnot (tt (xfn h_law_alike s_law_alike hr (by omega) tkF (xcons (xfn hvalue_at svalue_at hr (by omega) tkF (xcons (xv 3) (xcons (xv 4) (xcons (xv 5) xnil)))) (xcons (xfn h_law_value_at s_law_value_at hr (by omega) tkF (xcons (xv 3) (xcons (xv 4) (xcons (xv 5) xnil)))) xnil))))) (ss_one (s_ret xb)) ss_nil)
    (ss_cons (s_if (tnot (tt (xfn h_law_alike s_law_alike hr (by omega) tkF (xcons (xfn hline_on sline_on hr (by omega) tkF (xcons (xv 3) (xcons (xv 4) xnil))) (xcons (xfn h_law_line s_law_line hr (by omega) tkF (xcons (xv 3) (xcons (xv 4) xnil))) xnil))))) (ss_one (s_ret xb)) ss_nil)
    (ss_cons (sset 7 sclaw.nd (xfn hturned sturned hr (by omega) tkF (xcons (xv 3) xnil)))
    (ss_cons (s_if (tnot (tt (xfn h_law_alike s_law_alike hr (by omega) tkF (xcons (xv 7) (xcons (xcT (bf_tup rfl) b_tuple (xcons (xcB (bsort hr false) b_sorted (xcons (xlc false [("own", 16), ("i", 14), ("j", 15)] sclaw.nd (ival (xv 3)) (gtupF (gconsF (gtupF (gconsF (gnameF 14 (fun _ => sclaw.nd)) (gconsF (gnameF 15 (fun _ => sclaw.nd)) gnilF))) (gconsF (gnameF 16 (fun _ => sclaw.nd)) gnilF))) (fun _ => ts_nil) (fun _ => (xtup (xcons (xtup (xcons (xv 15) (xcons (xv 14) xnil))) (xcons (xv 16) xnil))))) xnil)) xnil)) xnil))))) (ss_one (s_ret xb)) ss_nil)
    (ss_cons (s_if (tcmp (one' hr) bl_ne (xfn hturned sturned hr (by omega) tkF (xcons (xv 7) xnil)) (xv 3)) (ss_one (s_ret xb)) ss_nil)
    (ss_cons (sset 8 sclaw.nd (xcmp (oeq hr) (xlc false [("powers", 17), ("own", 16)] sclaw.nd (ival (xv 3)) (gtupF (gconsF (gnameF 17 (fun _ => sclaw.nd)) (gconsF (gnameF 16 (fun _ => sclaw.nd)) gnilF))) (fun _ => ts_one (tcmp ogt bl_gt (xv 16) xi)) (fun _ => (xv 16))) (xlst false xnil)))
    (ss_one (s_if (tcmp (one' hr) bl_ne (xfn his_curve sis_curve hr (by omega) tkF (xcons (xv 3) xnil)) (xand (xch ole ole xi (xv 6) xi) (xone (xv 8)))) (ss_one (s_ret xb)) ss_nil))))))))))))
    (ss_cons (sasg (xtup (xcons (xtup (xcons (xtup (xcons (xtup (xcons xi (xcons xi xnil))) (xcons (xneg xi) xnil))) (xcons (xtup (xcons (xtup (xcons xi (xcons xi xnil))) (xcons xi xnil))) (xcons (xtup (xcons (xtup (xcons xi (xcons xi xnil))) (xcons xi xnil))) xnil)))) (xcons (xtup (xcons (xtup (xcons (xtup (xcons xi (xcons xi xnil))) (xcons (xneg xi) xnil))) (xcons (xtup (xcons (xtup (xcons xi (xcons xi xnil))) (xcons xi xnil))) xnil))) xnil))) (gtup (gcons (gname 9 sclaw.nd) (gcons (gname 10 sclaw.nd) gs_nil))))
    (ss_cons (s_if (PW.pt (wo (tcmp oisn bl_isn (xfn his_curve sis_curve hr (by omega) tkF (xcons (xv 9) xnil)) xb) (wo (tcmp (one' hr) bl_ne (xfn htotal_degree stotal_degree hr (by omega) tkF (xcons (xv 9) xnil)) xi) (wo1 (tcmp (one' hr) bl_ne (xfn hline_on sline_on hr (by omega) tkF (xcons (xv 9) (xcons (xtup (xcons xi (xcons xi xnil))) xnil))) (xtup (xcons (xneg xi) (xcons xi (xcons xi xnil))))))))) (ss_one (s_ret xb)) ss_nil)
    (ss_cons (s_if (tcmp (one' hr) bl_ne (xfn hvalue_at svalue_at hr (by omega) tkF (xcons (xv 9) (xcons (xtup (xcons xi (xcons xi xnil))) (xcons (xtup (xcons (xneg xi) (xcons xi xnil))) xnil)))) (xtup (xcons (xneg xi) (xcons xi xnil)))) (ss_one (s_ret xb)) ss_nil)
    (ss_cons (s_if (PW.pt (wo (tcmp (one' hr) bl_ne (xfn hturned sturned hr (by omega) tkF (xcons (xv 10) xnil)) (xtup (xcons (xtup (xcons (xtup (xcons xi (xcons xi xnil))) (xcons xi xnil))) (xcons (xtup (xcons (xtup (xcons xi (xcons xi xnil))) (xcons (xneg xi) xnil))) xnil)))) (wo1 (tcmp (one' hr) bl_ne (xfn htotal_degree stotal_degree hr (by omega) tkF (xcons (xtup xnil) xnil)) (xneg xi))))) (ss_one (s_ret xb)) ss_nil)
    (ss_cons (s_if (tcmp (one' hr) bl_ne (xfn hline_on sline_on hr (by omega) tkF (xcons (xtup (xcons (xtup (xcons (xtup (xcons xi (xcons xi xnil))) (xcons xi xnil))) xnil)) (xcons (xtup (xcons xi (xcons xi xnil))) xnil))) (xtup xnil)) (ss_one (s_ret xb)) ss_nil)
    (ss_cons (sset 11 sclaw.nd (xtup (xcons xn (xcons (xtup xnil) (xcons (xtup (xcons (xtup (xcons (xtup (xcons xi (xcons xi xnil))) (xcons xi xnil))) xnil)) (xcons (xtup (xcons (xtup (xcons (xtup (xcons xi (xcons xi xnil))) (xcons xi xnil))) xnil)) (xcons (xtup (xcons (xtup (xcons (xtup (xcons xi (xcons xi xnil))) (xcons xi xnil))) xnil)) xnil)))))))
    (ss_cons (sset 11 sclaw.nd (xbin (oadd false) (xv 11) (xtup (xcons (xtup (xcons (xtup (xcons (xtup (xcons xi (xcons xi xnil))) (xcons xb xnil))) xnil)) (xcons (xlst false (xcons (xtup (xcons (xtup (xcons xi (xcons xi xnil))) (xcons xi xnil))) xnil)) (xcons (xtup (xcons (xtup (xcons (xtup (xcons xi (xcons xi xnil))) (xcons xi xnil))) (xcons (xtup (xcons (xtup (xcons xi (xcons xi xnil))) (xcons xi xnil))) xnil))) xnil))))))
    (ss_cons (sset 12 sclaw.nd (xtup (xcons (xtup (xcons (xtup (xcons (xtup (xcons xi (xcons xi xnil))) (xcons (xneg xi) xnil))) xnil)) (xcons (xtup (xcons (xtup (xcons (xtup (xcons xi (xcons xi xnil))) (xcons xi xnil))) xnil)) (xcons (xtup (xcons (xtup (xcons (xtup (xcons xi (xcons xi xnil))) (xcons xi xnil))) (xcons (xtup (xcons (xtup (xcons xi (xcons xi xnil))) (xcons xi xnil))) xnil))) xnil)))))
    (ss_cons (s_if (tcmp (one' hr) bl_ne (xlc false [("one", 18)] sclaw.nd (ival (xbin (oadd false) (xv 11) (xv 12))) (gnameF 18 (fun _ => sclaw.nd)) (fun _ => ts_one (tcmp oisn bl_isn (xfn his_curve sis_curve hr (by omega) LamX.takes0 (xcons (xv 18) xnil)) xb)) (fun _ => (xv 18))) (xlst false xnil)) (ss_one (s_ret xb)) ss_nil)
    (ss_cons (s_if (tcmp oisn bl_isn (xfn his_curve sis_curve hr (by omega) tkF (xcons (xtup (xcons (xtup (xcons (xtup (xcons xi (xcons xi xnil))) (xcons (xneg xi) xnil))) (xcons (xtup (xcons (xtup (xcons xi (xcons xi xnil))) (xcons xi xnil))) xnil))) xnil)) xb) (ss_one (s_ret xb)) ss_nil)
    (ss_cons (ssetlc 13 false [("one", 18)] sclaw.nd (ival (xbin (oadd false) (xsl false (xv 11) on (os xi)) (xsl false (xv 11) (os xi) on))) (gnameF 18 (fun _ => sclaw.nd)) (fun _ => ts_nil) (fun _ => (xlam T_law_error sc_law_error (fun _ => tell_law_error T_law_error.cls) TB hmT hu hr (by omega) (fun _ _ _ _ _ _ _ hrL => (xfn hvalue_at svalue_at hrL (by omega) tkL (xcons (xv 18) (xcons xn (xcons xn xnil))))))))
    (ss_cons (sset 13 sclaw.nd (xbin (oadd false) (xv 13) (xlc false [("one", 18)] sclaw.nd (ival (xtup (xcons xn (xcons (xtup (xcons xi (xcons xi xnil))) (xcons (xtup (xcons xi (xcons xi xnil))) (xcons (xtup (xcons (xbin (oadd false) (xbin opow xi xi) xi) (xcons xi xnil))) xnil)))))) (gnameF 18 (fun _ => sclaw.nd)) (fun _ => ts_nil) (fun _ => (xlam T_law_error sc_law_error (fun _ => tell_law_error T_law_error.cls) TB hmT hu hr (by omega) (fun _ _ _ _ _ _ _ hrL => (xfn hline_on sline_on hrL (by omega) tkL (xcons (xv 9) (xcons (xv 18) xnil)))))))))
    (ss_cons (sset 13 sclaw.nd (xbin (oadd false) (xv 13) (xlc false [("one", 18)] sclaw.nd (ival (xtup (xcons xn (xcons xi (xcons (xtup (xcons xb (xcons xi xnil))) (xcons (xtup (xcons xi (xcons (xbin (oadd false) (xbin opow xi xi) xi) xnil))) xnil)))))) (gnameF 18 (fun _ => sclaw.nd)) (fun _ => ts_nil) (fun _ => (xlam T_law_error sc_law_error (fun _ => tell_law_error T_law_error.cls) TB hmT hu hr (by omega) (fun _ _ _ _ _ _ _ hrL => (xfn hvalue_at svalue_at hrL (by omega) tkL (xcons (xv 9) (xcons (xtup (xcons xi (xcons xi xnil))) (xcons (xv 18) xnil))))))))))
    (ss_cons (sset 13 sclaw.nd (xbin (oadd false) (xv 13) (xlc false [("one", 18)] sclaw.nd (ival (xtup (xcons xn (xcons xi xnil)))) (gnameF 18 (fun _ => sclaw.nd)) (fun _ => ts_nil) (fun _ => (xlam T_law_error sc_law_error (fun _ => tell_law_error T_law_error.cls) TB hmT hu hr (by omega) (fun _ _ _ _ _ _ _ hrL => (xfn hturned sturned hrL (by omega) tkL (xcons (xv 18) xnil))))))))
    (ss_cons (sset 13 sclaw.nd (xbin (oadd true) (xv 13) (xlc false [("one", 18)] sclaw.nd (ival (xtup (xcons xn (xcons (xtup (xcons xi (xcons xi xnil))) (xcons (xlst false (xcons xi (xcons xi xnil))) xnil))))) (gnameF 18 (fun _ => sclaw.nd)) (fun _ => ts_nil) (fun _ => (xlam T_law_error sc_law_error (fun _ => tell_law_error T_law_error.cls) TB hmT hu hr (by omega) (fun _ _ _ _ _ _ _ hrL => (xfn hvalue_at svalue_at hrL (by omega) tkL (xcons (xv 9) (xcons (xv 18) (xcons (xtup (xcons xi (xcons xi xnil))) xnil))))))))))
    (ss_cons (sexpr (xapp (xv 13) (xlam T_law_error sc_law_error (fun _ => tell_law_error T_law_error.cls) TB hmT hu hr (by omega) (fun _ _ _ _ _ _ _ hrL => (xfn htotal_degree stotal_degree hrL (by omega) tkL (xcons xn xnil))))))
    (ss_cons (sexpr (xapp (xv 13) (xlam T_law_error sc_law_error (fun _ => tell_law_error T_law_error.cls) TB hmT hu hr (by omega) (fun _ _ _ _ _ _ _ hrL => (xfn hline_on sline_on hrL (by omega) tkL (xcons xn (xcons (xtup (xcons xi (xcons xi xnil))) xnil)))))))
    (ss_one (s_ret (xcmp (oeq hr) (xv 13) (xbin (oadd false) (xbin (oadd false) (xbin (oadd false) (xbin (oadd false) (xbin (omul false) (xlst false (xcons xs xnil)) xi) (xbin (omul false) (xlst false (xcons xs xnil)) xi)) (xbin (omul false) (xlst false (xcons xs xnil)) xi)) (xbin (omul false) (xlst false (xcons xs xnil)) xi)) (xbin (omul false) (xlst false (xcons xs xnil)) xi))))))))))))))))))))))))
end LawX

set_option Elab.async false
set_option linter.all false
set_option maxRecDepth 100000
set_option maxHeartbeats 0
set_option exponentiation.threshold 5000
namespace LawX
open PySem PySem.Spec PyProof.Rows L2 Dx
/-! ### mirrors -/
def isInt : D → Bool
  | .int _ => true
  | _ => false
def isAny : D → Bool
  | .tup [.int a, .int b] => decide (0 < b) && decide (Nat.gcd a.natAbs b.natAbs = 1)
  | _ => false
def big : Int := 1000000000000
def isFrac : D → Bool
  | .tup [.int a, .int b] => (decide (0 < b) && decide (Nat.gcd a.natAbs b.natAbs = 1)) && (decide (a.natAbs ≤ 1000000000000) && decide (b ≤ 1000000000000))
  | _ => false
def lessB : D → D → Bool
  | .tup [.int a, .int b], .tup [.int c, .int d] => decide (a * d < c * b)
  | _, _ => false
def isStr : D → Bool
  | .tup [x, y] => isAny x && (isAny y && !lessB y x)
  | _ => false
def madeD (a b : Int) : D := .tup [.int (a.fdiv (Nat.gcd a.natAbs b.natAbs : Nat)), .int (b.fdiv (Nat.gcd a.natAbs b.natAbs : Nat))]
/-! ### contracts -/
def cRoll : Ct := fun ds S Q _ => ∃ n many, ds = [.obj n, .int many] ∧ Cup n S ∧ 0 < many ∧ many < 2 ^ 4000 ∧ ∀ k S', 0 ≤ k → k < many → CupR n S S' → Q (.int k) S'
def cSome : Ct := fun ds S Q _ => ∃ n xs, ds = [.obj n, .lst xs] ∧ Cup n S ∧ xs ≠ [] ∧ xs.length ≤ sizeLine ∧ ∀ d S', d ∈ xs → CupR n S S' → Q d S'
def cIsInt : Ct := fun ds S Q _ => ∃ v, ds = [v] ∧ datD v = true ∧ Q (.bl (isInt v)) S
def cIsTup : Ct := fun ds S Q _ => ∃ v a b, ds = [v, .int a, .int b] ∧ datD v = true ∧ Q (.bl (match v with | .tup xs => decide (a ≤ xs.length) && decide (xs.length ≤ b) | _ => false)) S
def cAny : Ct := fun ds S Q _ => ∃ v l, ds = [v] ∧ okD l v = true ∧ Q (.bl (isAny v)) S
def cFrac : Ct := fun ds S Q _ => ∃ v l, ds = [v] ∧ okD l v = true ∧ Q (.bl (isFrac v)) S
def cLess : Ct := fun ds S Q _ => ∃ a b c d, ds = [.tup [.int a, .int b], .tup [.int c, .int d]] ∧ cMul a d = true ∧ cMul c b = true ∧ Q (.bl (decide (a * d < c * b))) S
def cStr : Ct := fun ds S Q _ => ∃ v l, ds = [v] ∧ okD l v = true ∧ Q (.bl (isStr v)) S
def cMade : Ct := fun ds S Q _ => ∃ a b, ds = [.int a, .int b] ∧ 0 < b ∧ b < 2 ^ 4000 ∧ Q (madeD a b) S
def cCommon : Ct := fun ds S Q _ => ∃ a b, ds = [.int a, .int b] ∧ Q (.int (Nat.gcd a.natAbs b.natAbs : Nat)) S
theorem log_lt {b : Int} {n : Nat} (h0 : 0 < b) (h : b < 2 ^ n) : b.natAbs.log2 < n := by
  have : b.natAbs < 2 ^ n := by
    have e : ((2 ^ n : Nat) : Int) = 2 ^ n := by simp
    omega
  exact (Nat.log2_lt (by omega)).mpr this
theorem fmod_bd {a m : Int} (h : 0 < m) : 0 ≤ a.fmod m ∧ a.fmod m < m := ⟨Int.fmod_nonneg_of_pos a h, Int.fmod_lt_of_pos a h⟩
/-! ### the cup -/
theorem roll_ok (ds : List D) (S : Store) (Q : D → Store → Prop) (E : QX) (h : cRoll ds S Q E) : fs_law_roll (bodyEnds Q E) (startE N_law_roll ds) S := by
  obtain ⟨n, many, rfl, ⟨a, b, hc⟩, h0, hm, q⟩ := h
  have hl : n < S.length := (List.getElem?_eq_some_iff.mp hc).1
  have c0 : Cup n S := ⟨a, b, hc⟩
  have hm0 : ¬ many = 0 := by omega
  have hlg : many.natAbs.log2 < 9000 := Nat.lt_trans (log_lt h0 hm) (by decide)
  by_cases ha : 0 < a
  · have := q (a.fmod many) _ (fmod_bd h0).1 (fmod_bd h0).2 (CupR.set (a := a.fdiv many) (b := b) c0)
    simp [fs_law_roll, seqS, setS, retS, retN, exprS, nilS, ifS, parS, asgS, bindT, bindTs, bindF, callC, varF, retF, consF, nilF, iteV, truF, truD, notF, andF, orF, andV, orV, notV, chF, chT, bodyEnds, startE, optF, idxF, slcF, intF, noF, newL, tyD, isiT, isiB, lenB, absB, intB, gcdB, tupB, lstB, ltG, leG, gtG, geG, isG, isnG, o2I, isO, getS, addF, subF, mulF, eqG_ii, neG_ii, neG_bb, fdivG, modG, powG, raiseS, wipeE, N_law_roll, hc, ha, L2.atI, L2.ixN, subS, hm0, cDiv, hlg]
    exact this
  · have := q (((b * 31081 + 8039).fmod 2147483543 * ((b * 31081 + 8039).fmod 2147483543 + 251)).fmod 2147483587 |>.fdiv 839 |>.fmod many) _ (fmod_bd h0).1 (fmod_bd h0).2 (CupR.set (a := a) (b := (b * 31081 + 8039).fmod 2147483543) c0)
    have hb := fmod_bd (a := b * 31081 + 8039) (m := 2147483543) (by decide)
    have hb2 : cMul ((b * 31081 + 8039).fmod 2147483543) ((b * 31081 + 8039).fmod 2147483543 + 251) = true := by
      unfold cMul
      simp only [Bool.or_eq_true, decide_eq_true_eq]
      omega
    have hb3 : cMul b 31081 = true := by
      unfold cMul
      simp only [Bool.or_eq_true, decide_eq_true_eq]
      omega
    have h839 : cDiv ((((b * 31081 + 8039).fmod 2147483543) * ((b * 31081 + 8039).fmod 2147483543 + 251)).fmod 2147483587) 839 = true := by
      unfold cDiv
      decide +revert
    have hset : ∀ v, (S.set n v)[n]? = some v := fun v => List.getElem?_set_self hl
    simp [fs_law_roll, seqS, setS, retS, retN, exprS, nilS, ifS, parS, asgS, bindT, bindTs, bindF, callC, varF, retF, consF, nilF, iteV, truF, truD, notF, andF, orF, andV, orV, notV, chF, chT, bodyEnds, startE, optF, idxF, slcF, intF, noF, newL, tyD, isiT, isiB, lenB, absB, intB, gcdB, tupB, lstB, ltG, leG, gtG, geG, isG, isnG, o2I, isO, getS, addF, subF, mulF, eqG_ii, neG_ii, neG_bb, fdivG, modG, powG, raiseS, wipeE, N_law_roll, hc, ha, L2.atI, L2.ixN, subS, hm0, hlg, hb3, hb2, hset, List.set_set, h839]
    exact this
theorem some_ok (ds : List D) (S : Store) (Q : D → Store → Prop) (E : QX) (h : cSome ds S Q E) : fs_law_some cRoll (bodyEnds Q E) (startE N_law_some ds) S := by
  obtain ⟨n, xs, rfl, hc, hx, hl, q⟩ := h
  have hp : 0 < xs.length := List.length_pos_iff.mpr hx
  have hs := sizeLine_eq
  simp only [fs_law_some, seqS, setS, retS, retN, exprS, nilS, ifS, parS, asgS, bindT, bindTs, bindF, callC, varF, retF, consF, nilF, iteV, truF, truD, notF, andF, orF, andV, orV, notV, chF, chT, bodyEnds, startE, optF, idxF, slcF, intF, noF, newL, tyD, isiT, isiB, lenB, absB, intB, gcdB, tupB, lstB, ltG, leG, gtG, geG, isG, isnG, o2I, isO, getS, addF, subF, mulF, eqG_ii, neG_ii, neG_bb, fdivG, modG, powG, raiseS, wipeE, N_law_some, List.map_cons, List.map_nil, List.length_cons, List.length_nil, List.cons_append, List.getElem?_cons_succ, List.getElem?_cons_zero]
  refine ⟨n, xs.length, rfl, hc, by omega, ?_, fun k S' h0 h1 hr => ?_⟩
  · have : (2 : Int) ^ 4000 > 2 ^ 30 := by decide
    omega
  · obtain ⟨j, hj⟩ : ∃ j : Nat, k = j := ⟨k.toNat, by omega⟩
    subst hj
    have hjl : j < xs.length := by omega
    have e : L2.atI xs (j : Int) = some xs[j] := by
      unfold L2.atI L2.ixN
      rw [if_pos h0, if_pos h1]
      simp [hjl]
    simp only [e]
    exact q _ _ (List.getElem_mem hjl) hr
/-! ### plain tests -/
theorem isInt_ok (ds : List D) (S : Store) (Q : D → Store → Prop) (E : QX) (h : cIsInt ds S Q E) : fsis_integer (bodyEnds Q E) (startE Nis_integer ds) S := by
  obtain ⟨v, rfl, hv, hq⟩ := h
  cases v <;> simp [datD] at hv <;> simp [fsis_integer, seqS, setS, retS, retN, exprS, nilS, ifS, parS, asgS, bindT, bindTs, bindF, callC, varF, retF, consF, nilF, iteV, truF, truD, notF, andF, orF, andV, orV, notV, chF, chT, bodyEnds, startE, optF, idxF, slcF, intF, noF, newL, tyD, isiT, isiB, lenB, absB, intB, gcdB, tupB, lstB, ltG, leG, gtG, geG, isG, isnG, o2I, isO, getS, addF, subF, mulF, eqG_ii, neG_ii, neG_bb, fdivG, modG, powG, raiseS, wipeE, Nis_integer] <;> exact hq
theorem isTup_ok (ds : List D) (S : Store) (Q : D → Store → Prop) (E : QX) (h : cIsTup ds S Q E) : fsis_tuple_of (bodyEnds Q E) (startE Nis_tuple_of ds) S := by
  obtain ⟨v, a, b, rfl, hv, hq⟩ := h
  cases v with
  | tup xs =>
    by_cases h1 : a ≤ xs.length <;> simp [fsis_tuple_of, seqS, setS, retS, retN, exprS, nilS, ifS, parS, asgS, bindT, bindTs, bindF, callC, varF, retF, consF, nilF, iteV, truF, truD, notF, andF, orF, andV, orV, notV, chF, chT, bodyEnds, startE, optF, idxF, slcF, intF, noF, newL, tyD, isiT, isiB, lenB, absB, intB, gcdB, tupB, lstB, ltG, leG, gtG, geG, isG, isnG, o2I, isO, getS, addF, subF, mulF, eqG_ii, neG_ii, neG_bb, fdivG, modG, powG, raiseS, wipeE, Nis_tuple_of, h1] <;> simp [h1] at hq <;> exact hq
  | _ => simp [datD] at hv <;> simp [fsis_tuple_of, seqS, setS, retS, retN, exprS, nilS, ifS, parS, asgS, bindT, bindTs, bindF, callC, varF, retF, consF, nilF, iteV, truF, truD, notF, andF, orF, andV, orV, notV, chF, chT, bodyEnds, startE, optF, idxF, slcF, intF, noF, newL, tyD, isiT, isiB, lenB, absB, intB, gcdB, tupB, lstB, ltG, leG, gtG, geG, isG, isnG, o2I, isO, getS, addF, subF, mulF, eqG_ii, neG_ii, neG_bb, fdivG, modG, powG, raiseS, wipeE, Nis_tuple_of] <;> exact hq
theorem len2 {α : Type} {l : List α} (h : l.length = 2) : ∃ a b, l = [a, b] := by
  match l, h with
  | [a, b], _ => exact ⟨a, b, rfl⟩
theorem any_ok (ds : List D) (S : Store) (Q : D → Store → Prop) (E : QX) (h : cAny ds S Q E) : fsfits_any cIsTup cIsInt (bodyEnds Q E) (startE Nfits_any ds) S := by
  obtain ⟨v, l, rfl, hv, hq⟩ := h
  have hd := okD_dat hv
  simp only [fsfits_any, seqS, setS, retS, retN, exprS, nilS, ifS, parS, asgS, bindT, bindTs, bindF, callC, varF, retF, consF, nilF, iteV, truF, truD, notF, andF, orF, andV, orV, notV, chF, chT, bodyEnds, startE, optF, idxF, slcF, intF, noF, newL, tyD, isiT, isiB, lenB, absB, intB, gcdB, tupB, lstB, ltG, leG, gtG, geG, isG, isnG, o2I, isO, getS, addF, subF, mulF, eqG_ii, neG_ii, neG_bb, fdivG, modG, powG, raiseS, wipeE, Nfits_any, List.map_cons, List.map_nil, List.length_cons, List.length_nil, List.cons_append, List.getElem?_cons_succ, List.getElem?_cons_zero]
  refine ⟨v, 2, 2, rfl, hd, ?_⟩
  cases v with
  | tup xs =>
    by_cases hl : xs.length = 2
    · obtain ⟨x, y, rfl⟩ := len2 hl
      have hxy := okD_tup.mp hv
      have hx := okD_dat (hxy.2 x (by simp))
      have hy := okD_dat (hxy.2 y (by simp))
      simp [seqS, setS, retS, retN, exprS, nilS, ifS, parS, asgS, bindT, bindTs, bindF, callC, varF, retF, consF, nilF, iteV, truF, truD, notF, andF, orF, andV, orV, notV, chF, chT, bodyEnds, startE, optF, idxF, slcF, intF, noF, newL, tyD, isiT, isiB, lenB, absB, intB, gcdB, tupB, lstB, ltG, leG, gtG, geG, isG, isnG, o2I, isO, getS, addF, subF, mulF, eqG_ii, neG_ii, neG_bb, fdivG, modG, powG, raiseS, wipeE, L2.atI, L2.ixN]
      refine ⟨x, rfl, hx, ?_⟩
      cases x with
      | int i =>
        simp [isInt, seqS, setS, retS, retN, exprS, nilS, ifS, parS, asgS, bindT, bindTs, bindF, callC, varF, retF, consF, nilF, iteV, truF, truD, notF, andF, orF, andV, orV, notV, chF, chT, bodyEnds, startE, optF, idxF, slcF, intF, noF, newL, tyD, isiT, isiB, lenB, absB, intB, gcdB, tupB, lstB, ltG, leG, gtG, geG, isG, isnG, o2I, isO, getS, addF, subF, mulF, eqG_ii, neG_ii, neG_bb, fdivG, modG, powG, raiseS, wipeE, L2.atI, L2.ixN]
        refine ⟨y, rfl, hy, ?_⟩
        cases y with
        | int j =>
          simp [isInt, isAny, seqS, setS, retS, retN, exprS, nilS, ifS, parS, asgS, bindT, bindTs, bindF, callC, varF, retF, consF, nilF, iteV, truF, truD, notF, andF, orF, andV, orV, notV, chF, chT, bodyEnds, startE, optF, idxF, slcF, intF, noF, newL, tyD, isiT, isiB, lenB, absB, intB, gcdB, tupB, lstB, ltG, leG, gtG, geG, isG, isnG, o2I, isO, getS, addF, subF, mulF, eqG_ii, neG_ii, neG_bb, fdivG, modG, powG, raiseS, wipeE, L2.atI, L2.ixN] at hq ⊢
          by_cases hb : 0 < j
          · simp [hb, seqS, setS, retS, retN, exprS, nilS, ifS, parS, asgS, bindT, bindTs, bindF, callC, varF, retF, consF, nilF, iteV, truF, truD, notF, andF, orF, andV, orV, notV, chF, chT, bodyEnds, startE, optF, idxF, slcF, intF, noF, newL, tyD, isiT, isiB, lenB, absB, intB, gcdB, tupB, lstB, ltG, leG, gtG, geG, isG, isnG, o2I, isO, getS, addF, subF, mulF, eqG_ii, neG_ii, neG_bb, fdivG, modG, powG, raiseS, wipeE, L2.atI, L2.ixN] at hq ⊢
            have e : decide (((i.natAbs.gcd j.natAbs : Nat) : Int) = 1) = decide (i.natAbs.gcd j.natAbs = 1) := by rw [Bool.eq_iff_iff]; simp only [decide_eq_true_eq]; omega
            first | exact hq | (rw [e]; exact hq)
          · simp [hb, seqS, setS, retS, retN, exprS, nilS, ifS, parS, asgS, bindT, bindTs, bindF, callC, varF, retF, consF, nilF, iteV, truF, truD, notF, andF, orF, andV, orV, notV, chF, chT, bodyEnds, startE, optF, idxF, slcF, intF, noF, newL, tyD, isiT, isiB, lenB, absB, intB, gcdB, tupB, lstB, ltG, leG, gtG, geG, isG, isnG, o2I, isO, getS, addF, subF, mulF, eqG_ii, neG_ii, neG_bb, fdivG, modG, powG, raiseS, wipeE] at hq ⊢
            exact hq
        | _ => simp [isInt, isAny, seqS, setS, retS, retN, exprS, nilS, ifS, parS, asgS, bindT, bindTs, bindF, callC, varF, retF, consF, nilF, iteV, truF, truD, notF, andF, orF, andV, orV, notV, chF, chT, bodyEnds, startE, optF, idxF, slcF, intF, noF, newL, tyD, isiT, isiB, lenB, absB, intB, gcdB, tupB, lstB, ltG, leG, gtG, geG, isG, isnG, o2I, isO, getS, addF, subF, mulF, eqG_ii, neG_ii, neG_bb, fdivG, modG, powG, raiseS, wipeE] at hq ⊢; exact hq
      | _ => simp [isInt, isAny, seqS, setS, retS, retN, exprS, nilS, ifS, parS, asgS, bindT, bindTs, bindF, callC, varF, retF, consF, nilF, iteV, truF, truD, notF, andF, orF, andV, orV, notV, chF, chT, bodyEnds, startE, optF, idxF, slcF, intF, noF, newL, tyD, isiT, isiB, lenB, absB, intB, gcdB, tupB, lstB, ltG, leG, gtG, geG, isG, isnG, o2I, isO, getS, addF, subF, mulF, eqG_ii, neG_ii, neG_bb, fdivG, modG, powG, raiseS, wipeE] at hq ⊢; exact hq
    · have : ¬ (2 ≤ (xs.length : Int) ∧ (xs.length : Int) ≤ 2) := by omega
      have e : (decide (2 ≤ (xs.length : Int)) && decide ((xs.length : Int) ≤ 2)) = false := by simpa using this
      simp [e, seqS, setS, retS, retN, exprS, nilS, ifS, parS, asgS, bindT, bindTs, bindF, callC, varF, retF, consF, nilF, iteV, truF, truD, notF, andF, orF, andV, orV, notV, chF, chT, bodyEnds, startE, optF, idxF, slcF, intF, noF, newL, tyD, isiT, isiB, lenB, absB, intB, gcdB, tupB, lstB, ltG, leG, gtG, geG, isG, isnG, o2I, isO, getS, addF, subF, mulF, eqG_ii, neG_ii, neG_bb, fdivG, modG, powG, raiseS, wipeE]
      have : isAny (.tup xs) = false := by
        unfold isAny
        split
        · rename_i q; cases q; simp at hl
        · rfl
      rw [this] at hq
      exact hq
  | _ => simp [isAny] at hq; simp [seqS, setS, retS, retN, exprS, nilS, ifS, parS, asgS, bindT, bindTs, bindF, callC, varF, retF, consF, nilF, iteV, truF, truD, notF, andF, orF, andV, orV, notV, chF, chT, bodyEnds, startE, optF, idxF, slcF, intF, noF, newL, tyD, isiT, isiB, lenB, absB, intB, gcdB, tupB, lstB, ltG, leG, gtG, geG, isG, isnG, o2I, isO, getS, addF, subF, mulF, eqG_ii, neG_ii, neG_bb, fdivG, modG, powG, raiseS, wipeE]; exact hq

theorem frac_ok (ds : List D) (S : Store) (Q : D → Store → Prop) (E : QX) (h : cFrac ds S Q E) : fsfits_fraction cAny (bodyEnds Q E) (startE Nfits_fraction ds) S := by
  obtain ⟨v, l, rfl, hv, hq⟩ := h
  simp [fsfits_fraction, seqS, setS, retS, retN, exprS, nilS, ifS, parS, asgS, bindT, bindTs, bindF, callC, varF, retF, consF, nilF, iteV, truF, truD, notF, andF, orF, andV, orV, notV, chF, chT, bodyEnds, startE, optF, idxF, slcF, intF, noF, newL, tyD, isiT, isiB, lenB, absB, intB, gcdB, tupB, lstB, ltG, leG, gtG, geG, isG, isnG, o2I, isO, getS, addF, subF, mulF, eqG_ii, neG_ii, neG_bb, fdivG, modG, powG, raiseS, wipeE, Nfits_fraction]
  refine ⟨v, l, rfl, hv, ?_⟩
  by_cases ha : isAny v = true
  · simp [ha, seqS, setS, retS, retN, exprS, nilS, ifS, parS, asgS, bindT, bindTs, bindF, callC, varF, retF, consF, nilF, iteV, truF, truD, notF, andF, orF, andV, orV, notV, chF, chT, bodyEnds, startE, optF, idxF, slcF, intF, noF, newL, tyD, isiT, isiB, lenB, absB, intB, gcdB, tupB, lstB, ltG, leG, gtG, geG, isG, isnG, o2I, isO, getS, addF, subF, mulF, eqG_ii, neG_ii, neG_bb, fdivG, modG, powG, raiseS, wipeE]
    unfold isAny at ha
    split at ha
    · rename_i a b
      simp [isFrac] at hq ha
      have e : decide ((if a < 0 then -a else a) ≤ 1000000000000) = decide (a.natAbs ≤ 1000000000000) := by
        rw [Bool.eq_iff_iff]; simp only [decide_eq_true_eq]; split <;> omega
      simp [seqS, setS, retS, retN, exprS, nilS, ifS, parS, asgS, bindT, bindTs, bindF, callC, varF, retF, consF, nilF, iteV, truF, truD, notF, andF, orF, andV, orV, notV, chF, chT, bodyEnds, startE, optF, idxF, slcF, intF, noF, newL, tyD, isiT, isiB, lenB, absB, intB, gcdB, tupB, lstB, ltG, leG, gtG, geG, isG, isnG, o2I, isO, getS, addF, subF, mulF, eqG_ii, neG_ii, neG_bb, fdivG, modG, powG, raiseS, wipeE, L2.atI, L2.ixN]
      by_cases hs : a.natAbs ≤ 1000000000000
      · simp [ha, hs] at hq
        have e2 : (if a < 0 then -a else a) ≤ 1000000000000 := by split <;> omega
        simp [e2, hs, seqS, setS, retS, retN, exprS, nilS, ifS, parS, asgS, bindT, bindTs, bindF, callC, varF, retF, consF, nilF, iteV, truF, truD, notF, andF, orF, andV, orV, notV, chF, chT, bodyEnds, startE, optF, idxF, slcF, intF, noF, newL, tyD, isiT, isiB, lenB, absB, intB, gcdB, tupB, lstB, ltG, leG, gtG, geG, isG, isnG, o2I, isO, getS, addF, subF, mulF, eqG_ii, neG_ii, neG_bb, fdivG, modG, powG, raiseS, wipeE, L2.atI, L2.ixN]
        exact hq
      · simp [ha, hs] at hq
        have e2 : ¬ (if a < 0 then -a else a) ≤ 1000000000000 := by split <;> omega
        simp [e2, hs, seqS, setS, retS, retN, exprS, nilS, ifS, parS, asgS, bindT, bindTs, bindF, callC, varF, retF, consF, nilF, iteV, truF, truD, notF, andF, orF, andV, orV, notV, chF, chT, bodyEnds, startE, optF, idxF, slcF, intF, noF, newL, tyD, isiT, isiB, lenB, absB, intB, gcdB, tupB, lstB, ltG, leG, gtG, geG, isG, isnG, o2I, isO, getS, addF, subF, mulF, eqG_ii, neG_ii, neG_bb, fdivG, modG, powG, raiseS, wipeE, L2.atI, L2.ixN]
        exact hq
    · cases ha
  · have e : isFrac v = false := by
      cases q : isFrac v with
      | false => rfl
      | true =>
        unfold isFrac at q
        split at q
        · simp at q
          exact absurd (by simp [isAny, q]) ha
        · cases q
    rw [e] at hq
    simp at ha
    simp [ha, seqS, setS, retS, retN, exprS, nilS, ifS, parS, asgS, bindT, bindTs, bindF, callC, varF, retF, consF, nilF, iteV, truF, truD, notF, andF, orF, andV, orV, notV, chF, chT, bodyEnds, startE, optF, idxF, slcF, intF, noF, newL, tyD, isiT, isiB, lenB, absB, intB, gcdB, tupB, lstB, ltG, leG, gtG, geG, isG, isnG, o2I, isO, getS, addF, subF, mulF, eqG_ii, neG_ii, neG_bb, fdivG, modG, powG, raiseS, wipeE]
    exact hq
theorem log4000 {i : Int} (h : i.natAbs < 2 ^ 4000) : i.natAbs.log2 ≤ 4000 := by
  by_cases h0 : i.natAbs = 0
  · rw [h0]; decide
  · exact Nat.le_of_lt ((Nat.log2_lt h0).mpr h)
theorem cmul_ok {i j : Int} (h : i.natAbs < 2 ^ 4000) (h' : j.natAbs < 2 ^ 4000) : cMul i j = true := by
  have h1 := log4000 h
  have h2 := log4000 h'
  unfold cMul
  simp only [Bool.or_eq_true, decide_eq_true_eq]
  left; left; omega
theorem any_form {v : D} (h : isAny v = true) : ∃ a b, v = .tup [.int a, .int b] ∧ 0 < b ∧ Nat.gcd a.natAbs b.natAbs = 1 := by
  unfold isAny at h
  split at h
  · rename_i a b
    simp at h
    exact ⟨a, b, rfl, h.1, h.2⟩
  · cases h
/-! ### need_whole, made, fraction_of -/
def wholeB (v : D) (a b : Int) : Bool := match v with
  | .int i => decide (a ≤ i) && decide (i ≤ b)
  | _ => false
def cWhole : Ct := fun ds S Q _ => ∃ v a b, ds = [v, .int a, .int b] ∧ datD v = true ∧ Q (.bl (wholeB v a b)) S
def cNeed : Ct := fun ds S Q E => ∃ v a b, ds = [v, .int a, .int b] ∧ datD v = true ∧ if wholeB v a b = true then Q .non S else E ⟨"InvalidNumber", []⟩ S
def cFracOf : Ct := fun ds S Q E => ∃ v u, ds = [v, u] ∧ datD v = true ∧ datD u = true ∧ ((wholeB v (-1000000000000) 1000000000000 && wholeB u 1 1000000000000) = false → E ⟨"InvalidNumber", []⟩ S) ∧
  ∀ a b, v = .int a → u = .int b → -1000000000000 ≤ a → a ≤ 1000000000000 → 1 ≤ b → b ≤ 1000000000000 → Q (madeD a b) S
theorem whole_ok (ds : List D) (S : Store) (Q : D → Store → Prop) (E : QX) (h : cWhole ds S Q E) : fsis_whole (bodyEnds Q E) (startE Nis_whole ds) S := by
  obtain ⟨v, a, b, rfl, hv, hq⟩ := h
  cases v with
  | int i =>
    simp [wholeB] at hq
    by_cases h1 : a ≤ i
    · simp [h1] at hq
      simp [fsis_whole, seqS, setS, retS, retN, exprS, nilS, ifS, parS, asgS, bindT, bindTs, bindF, callC, varF, retF, consF, nilF, iteV, truF, truD, notF, andF, orF, andV, orV, notV, chF, chT, bodyEnds, startE, optF, idxF, slcF, intF, noF, newL, tyD, isiT, isiB, lenB, absB, intB, gcdB, tupB, lstB, ltG, leG, gtG, geG, isG, isnG, o2I, isO, getS, addF, subF, mulF, eqG_ii, neG_ii, neG_bb, fdivG, modG, powG, raiseS, wipeE, Nis_whole, h1]
      exact hq
    · simp [h1] at hq
      simp [fsis_whole, seqS, setS, retS, retN, exprS, nilS, ifS, parS, asgS, bindT, bindTs, bindF, callC, varF, retF, consF, nilF, iteV, truF, truD, notF, andF, orF, andV, orV, notV, chF, chT, bodyEnds, startE, optF, idxF, slcF, intF, noF, newL, tyD, isiT, isiB, lenB, absB, intB, gcdB, tupB, lstB, ltG, leG, gtG, geG, isG, isnG, o2I, isO, getS, addF, subF, mulF, eqG_ii, neG_ii, neG_bb, fdivG, modG, powG, raiseS, wipeE, Nis_whole, h1]
      exact hq
  | _ => simp [datD] at hv <;> simp [wholeB] at hq <;> simp [fsis_whole, seqS, setS, retS, retN, exprS, nilS, ifS, parS, asgS, bindT, bindTs, bindF, callC, varF, retF, consF, nilF, iteV, truF, truD, notF, andF, orF, andV, orV, notV, chF, chT, bodyEnds, startE, optF, idxF, slcF, intF, noF, newL, tyD, isiT, isiB, lenB, absB, intB, gcdB, tupB, lstB, ltG, leG, gtG, geG, isG, isnG, o2I, isO, getS, addF, subF, mulF, eqG_ii, neG_ii, neG_bb, fdivG, modG, powG, raiseS, wipeE, Nis_whole] <;> exact hq
theorem gcd_pos {a b : Int} (h : 0 < b) : 0 < Nat.gcd a.natAbs b.natAbs := Nat.gcd_pos_of_pos_right _ (by omega)
theorem gcd_le {a b : Int} (h : 0 < b) : Nat.gcd a.natAbs b.natAbs ≤ b.natAbs := Nat.le_of_dvd (by omega) (Nat.gcd_dvd_right _ _)
theorem cdiv_ok {a b : Int} (c : Int) (h : 0 < b) (hb : b < 2 ^ 4000) : cDiv c (Nat.gcd a.natAbs b.natAbs : Nat) = true := by
  have h1 := gcd_pos (a := a) h
  have h2 := gcd_le (a := a) h
  have h3 : Nat.gcd a.natAbs b.natAbs < 2 ^ 4000 := by
    have e : ((2 ^ 4000 : Nat) : Int) = 2 ^ 4000 := by simp
    omega
  unfold cDiv
  simp only [Bool.and_eq_true, Bool.not_eq_true', decide_eq_true_eq, decide_eq_false_iff_not, Int.natAbs_natCast]
  exact ⟨by omega, Nat.lt_trans ((Nat.log2_lt (by omega)).mpr h3) (by decide)⟩
theorem made_ok (ds : List D) (S : Store) (Q : D → Store → Prop) (E : QX) (h : cMade ds S Q E) : fsmade (bodyEnds Q E) (startE Nmade ds) S := by
  obtain ⟨a, b, rfl, h0, hb, hq⟩ := h
  have hs := sizeLine_eq
  simp [fsmade, seqS, setS, retS, retN, exprS, nilS, ifS, parS, asgS, bindT, bindTs, bindF, callC, varF, retF, consF, nilF, iteV, truF, truD, notF, andF, orF, andV, orV, notV, chF, chT, bodyEnds, startE, optF, idxF, slcF, intF, noF, newL, tyD, isiT, isiB, lenB, absB, intB, gcdB, tupB, lstB, ltG, leG, gtG, geG, isG, isnG, o2I, isO, getS, addF, subF, mulF, eqG_ii, neG_ii, neG_bb, fdivG, modG, powG, raiseS, wipeE, Nmade, h0, cdiv_ok _ h0 hb]
  exact ⟨by rw [hs]; decide, hq⟩
/-! ### the law's own -/
theorem gcd_step {a b : Int} (hb : b ≠ 0) : Nat.gcd b.natAbs (a.fmod b).natAbs = Nat.gcd a.natAbs b.natAbs := by
  have h1 : Int.gcd b (a.fmod b) = Int.gcd a b := by
    have e : a = b * a.fdiv b + a.fmod b := (Int.mul_fdiv_add_fmod a b).symm
    conv => rhs; rw [e]
    rw [Int.gcd_comm (b * a.fdiv b + a.fmod b) b]
    simp
  exact h1
theorem fmod_small {a b : Int} (hb : b ≠ 0) : (a.fmod b).natAbs < b.natAbs := by
  rcases Int.lt_or_gt_of_ne hb with h | h
  · have e : a.fmod b = a % b + if 0 ≤ b ∨ b ∣ a then 0 else b := Int.fmod_eq_emod
    have h1 := Int.emod_nonneg a hb
    have h2 : a % b < -b := by
      have := Int.emod_lt_of_pos a (b := -b) (by omega)
      rwa [Int.emod_neg] at this
    by_cases hd : b ∣ a
    · have h4 := Int.emod_eq_zero_of_dvd hd
      simp [hd] at e
      omega
    · have h4 : a % b ≠ 0 := fun z => hd (Int.dvd_of_emod_eq_zero z)
      have h5 : ¬ (0 ≤ b ∨ b ∣ a) := by
        rintro (z | z)
        · omega
        · exact hd z
      rw [if_neg h5] at e
      omega
  · have := fmod_bd (a := a) h
    omega
theorem common_ok (ds : List D) (S : Store) (Q : D → Store → Prop) (E : QX) (h : cCommon ds S Q E) : fs_law_common (bodyEnds Q E) (startE N_law_common ds) S := by
  obtain ⟨a, b, rfl, hq⟩ := h
  have e0 : startE N_law_common [D.int a, D.int b] = [some (.int a), some (.int b)] := rfl
  rw [e0]
  show whileS _ _ _ _ S
  refine ⟨fun n τ S' => S' = S ∧ ∃ x y : Int, n = y.natAbs ∧ τ = [some (.int x), some (.int y)] ∧ Nat.gcd x.natAbs y.natAbs = Nat.gcd a.natAbs b.natAbs, ⟨b.natAbs, rfl, a, b, rfl, rfl, rfl⟩, ?_⟩
  rintro n τ S' ⟨rfl, x, y, rfl, rfl, hg⟩
  by_cases hy : y = 0
  · subst hy
    simp [seqS, setS, retS, retN, exprS, nilS, ifS, parS, asgS, bindT, bindTs, bindF, callC, varF, retF, consF, nilF, iteV, truF, truD, notF, andF, orF, andV, orV, notV, chF, chT, bodyEnds, startE, optF, idxF, slcF, intF, noF, newL, tyD, isiT, isiB, lenB, absB, intB, gcdB, tupB, lstB, ltG, leG, gtG, geG, isG, isnG, o2I, isO, getS, addF, subF, mulF, eqG_ii, neG_ii, neG_bb, fdivG, modG, powG, raiseS, wipeE]
    have hx : Nat.gcd a.natAbs b.natAbs = x.natAbs := by rw [← hg]; simp
    by_cases h0 : 0 < x
    · have e : ((Nat.gcd a.natAbs b.natAbs : Nat) : Int) = x := by rw [hx]; omega
      rw [e] at hq
      simp [h0]
      exact hq
    · have e : ((Nat.gcd a.natAbs b.natAbs : Nat) : Int) = -x := by rw [hx]; omega
      rw [e] at hq
      simp [h0]
      exact hq
  · have h1 := fmod_small (a := x) hy
    have h2 := gcd_step (a := x) hy
    simp [seqS, setS, retS, retN, exprS, nilS, ifS, parS, asgS, bindT, bindTs, bindF, callC, varF, retF, consF, nilF, iteV, truF, truD, notF, andF, orF, andV, orV, notV, chF, chT, bodyEnds, startE, optF, idxF, slcF, intF, noF, newL, tyD, isiT, isiB, lenB, absB, intB, gcdB, tupB, lstB, ltG, leG, gtG, geG, isG, isnG, o2I, isO, getS, addF, subF, mulF, eqG_ii, neG_ii, neG_bb, fdivG, modG, powG, raiseS, wipeE, hy]
    exact ⟨_, h1, _, _, rfl, ⟨rfl, rfl⟩, by rw [h2, hg]⟩
theorem lawmade_ok (ds : List D) (S : Store) (Q : D → Store → Prop) (E : QX) (h : cMade ds S Q E) : fs_law_made cCommon (bodyEnds Q E) (startE N_law_made ds) S := by
  obtain ⟨a, b, rfl, h0, hb, hq⟩ := h
  have hs := sizeLine_eq
  simp [fs_law_made, seqS, setS, retS, retN, exprS, nilS, ifS, parS, asgS, bindT, bindTs, bindF, callC, varF, retF, consF, nilF, iteV, truF, truD, notF, andF, orF, andV, orV, notV, chF, chT, bodyEnds, startE, optF, idxF, slcF, intF, noF, newL, tyD, isiT, isiB, lenB, absB, intB, gcdB, tupB, lstB, ltG, leG, gtG, geG, isG, isnG, o2I, isO, getS, addF, subF, mulF, eqG_ii, neG_ii, neG_bb, fdivG, modG, powG, raiseS, wipeE, N_law_made]
  refine ⟨a, b, rfl, ?_⟩
  simp [seqS, setS, retS, retN, exprS, nilS, ifS, parS, asgS, bindT, bindTs, bindF, callC, varF, retF, consF, nilF, iteV, truF, truD, notF, andF, orF, andV, orV, notV, chF, chT, bodyEnds, startE, optF, idxF, slcF, intF, noF, newL, tyD, isiT, isiB, lenB, absB, intB, gcdB, tupB, lstB, ltG, leG, gtG, geG, isG, isnG, o2I, isO, getS, addF, subF, mulF, eqG_ii, neG_ii, neG_bb, fdivG, modG, powG, raiseS, wipeE, h0, cdiv_ok _ h0 hb]
  exact ⟨by rw [hs]; decide, hq⟩
theorem eq_made {a b : Int} (h : 0 < b) : eqD (madeD a b) (.tup [.int a, .int b]) = decide (Nat.gcd a.natAbs b.natAbs = 1) := by
  have hp := gcd_pos (a := a) h
  rw [Bool.eq_iff_iff]
  simp only [madeD, eqD, eqDs, Bool.and_true, Bool.and_eq_true, beq_iff_eq, decide_eq_true_eq]
  constructor
  · rintro ⟨_, h2⟩
    have hd : ((Nat.gcd a.natAbs b.natAbs : Nat) : Int) ∣ b := Int.gcd_dvd_right ..
    rw [Int.fdiv_eq_ediv_of_nonneg _ (by omega)] at h2
    have h3 := Int.mul_ediv_cancel' hd
    rw [h2] at h3
    have h4 : (((Nat.gcd a.natAbs b.natAbs : Nat) : Int) - 1) * b = 0 := by rw [Int.sub_mul]; omega
    rcases Int.mul_eq_zero.mp h4 with h5 | h5 <;> omega
  · intro h1
    rw [h1]
    simp
def cLawAny : Ct := fun ds S Q _ => ∃ v l, ds = [v] ∧ okD l v = true ∧ l ≤ sizeLine ∧ depD v ≤ 63 ∧ Q (.bl (isAny v)) S
def cLawFrac : Ct := fun ds S Q _ => ∃ v l, ds = [v] ∧ okD l v = true ∧ l ≤ sizeLine ∧ depD v ≤ 63 ∧ Q (.bl (isFrac v)) S
def cLawStr : Ct := fun ds S Q _ => ∃ v l, ds = [v] ∧ okD l v = true ∧ l ≤ sizeLine ∧ depD v ≤ 63 ∧ Q (.bl (isStr v)) S
theorem p7 : cPow 10 7 = true := by decide
theorem p11 : cPow 10 11 = true := by decide
theorem p12 : cPow 10 12 = true := by decide
theorem p18 : cPow 10 18 = true := by decide
theorem p50 : cPow 10 50 = true := by decide
def cLFrac : Ct := fun ds S Q _ => ∃ n, ds = [.obj n] ∧ Cup n S ∧ ∀ a b S', -9 ≤ a → a ≤ 9 → 1 ≤ b → b ≤ 5 → CupR n S S' → Q (madeD a b) S'
theorem lfrac_ok (ds : List D) (S : Store) (Q : D → Store → Prop) (E : QX) (h : cLFrac ds S Q E) : fs_law_fraction cMade cRoll (bodyEnds Q E) (startE N_law_fraction ds) S := by
  obtain ⟨n, rfl, hc, hq⟩ := h
  simp [fs_law_fraction, seqS, setS, retS, retN, exprS, nilS, ifS, parS, asgS, bindT, bindTs, bindF, callC, varF, retF, consF, nilF, iteV, truF, truD, notF, andF, orF, andV, orV, notV, chF, chT, bodyEnds, startE, optF, idxF, slcF, intF, noF, newL, tyD, isiT, isiB, lenB, absB, intB, gcdB, tupB, lstB, ltG, leG, gtG, geG, isG, isnG, o2I, isO, getS, addF, subF, mulF, eqG_ii, neG_ii, neG_bb, fdivG, modG, powG, raiseS, wipeE, N_law_fraction]
  refine ⟨n, 19, rfl, hc, by decide, by decide, fun k1 S1 h1 h2 r1 => ?_⟩
  simp [seqS, setS, retS, retN, exprS, nilS, ifS, parS, asgS, bindT, bindTs, bindF, callC, varF, retF, consF, nilF, iteV, truF, truD, notF, andF, orF, andV, orV, notV, chF, chT, bodyEnds, startE, optF, idxF, slcF, intF, noF, newL, tyD, isiT, isiB, lenB, absB, intB, gcdB, tupB, lstB, ltG, leG, gtG, geG, isG, isnG, o2I, isO, getS, addF, subF, mulF, eqG_ii, neG_ii, neG_bb, fdivG, modG, powG, raiseS, wipeE]
  refine ⟨n, 5, rfl, r1.cup, by decide, by decide, fun k2 S2 h3 h4 r2 => ?_⟩
  simp [seqS, setS, retS, retN, exprS, nilS, ifS, parS, asgS, bindT, bindTs, bindF, callC, varF, retF, consF, nilF, iteV, truF, truD, notF, andF, orF, andV, orV, notV, chF, chT, bodyEnds, startE, optF, idxF, slcF, intF, noF, newL, tyD, isiT, isiB, lenB, absB, intB, gcdB, tupB, lstB, ltG, leG, gtG, geG, isG, isnG, o2I, isO, getS, addF, subF, mulF, eqG_ii, neG_ii, neG_bb, fdivG, modG, powG, raiseS, wipeE]
  have h5 : (10 : Int) < 2 ^ 4000 := by decide
  exact ⟨_, _, rfl, by omega, by omega, hq _ _ _ (by omega) (by omega) (by omega) (by omega) (r1.trans r2)⟩
def cLCup : Ct := fun ds S Q _ => ∃ ns, ds = [.lst (scr ns)] ∧ ns.length ≤ 63 ∧ S = [] ∧ ∀ a b : Int, Q (.obj 0) [.lst [.int a, .int b]]
theorem cup_ok (ds : List D) (S : Store) (Q : D → Store → Prop) (E : QX) (h : cLCup ds S Q E) : fs_law_cup (bodyEnds Q E) (startE N_law_cup ds) S := by
  obtain ⟨ns, rfl, hl, rfl, hq⟩ := h
  have hs := sizeLine_eq
  have h1 : (scr ns).length + 1 ≤ sizeLine := by rw [hs]; simp [scr]; omega
  obtain ⟨z, t, hz⟩ : ∃ (z : Int) (t : List D), scr ns ++ [D.int 0] = .int z :: t := by
    cases ns with
    | nil => exact ⟨0, [], rfl⟩
    | cons a r => exact ⟨a, r.map .int ++ [.int 0], rfl⟩
  have hp : (0 : Int) < (t.length : Int) + 1 := by omega
  have m307 : ∀ z : Int, cMul z 307 = true := fun z => by unfold cMul; simp
  have d83 : ∀ z : Int, cDiv z 83 = true := fun z => by unfold cDiv; decide
  have hz2 : (2 : Nat) ≤ sizeLine := by rw [hs]; decide
  have hz1 : (1 : Nat) ≤ sizeLine := by rw [hs]; decide
  by_cases hc : 1000000000000000000 ≤ (if z < 0 then -z else z)
  · simp [fs_law_cup, seqS, setS, retS, retN, exprS, nilS, ifS, parS, asgS, bindT, bindTs, bindF, callC, varF, retF, consF, nilF, iteV, truF, truD, notF, andF, orF, andV, orV, notV, chF, chT, bodyEnds, startE, optF, idxF, slcF, intF, noF, newL, tyD, isiT, isiB, lenB, absB, intB, gcdB, tupB, lstB, ltG, leG, gtG, geG, isG, isnG, o2I, isO, getS, addF, subF, mulF, eqG_ii, neG_ii, neG_bb, fdivG, modG, powG, raiseS, wipeE, N_law_cup, h1, L2.atI, L2.ixN, hz, hp, m307, p18, hc, d83, hz2, hz1]
    exact hq _ _
  · simp [fs_law_cup, seqS, setS, retS, retN, exprS, nilS, ifS, parS, asgS, bindT, bindTs, bindF, callC, varF, retF, consF, nilF, iteV, truF, truD, notF, andF, orF, andV, orV, notV, chF, chT, bodyEnds, startE, optF, idxF, slcF, intF, noF, newL, tyD, isiT, isiB, lenB, absB, intB, gcdB, tupB, lstB, ltG, leG, gtG, geG, isG, isnG, o2I, isO, getS, addF, subF, mulF, eqG_ii, neG_ii, neG_bb, fdivG, modG, powG, raiseS, wipeE, N_law_cup, h1, L2.atI, L2.ixN, hz, hp, m307, p18, hc, d83, hz2, hz1]
    exact hq _ _

def menuL : List D := [.non, .tup [], .int 0, .int 1, .int (-1), .int 7, .int 13, .int 10000000, .bl true, .str "", .str "pi", .str "sqrt", .str "number", .tup [.int 0, .int 1], .tup [.int 2, .int 4], .tup [.int 1, .int 0],
  .tup [.str "pi"], .tup [.str "unknown"], .lst [.str "pi"], .tup [.str "number", .tup [.int 1, .int 2]], .tup [.int 1, .int 2, .int 0], .tup [.int 0, .int 0, .int 1]]
theorem menu_ok : ∀ d ∈ menuL, okD 3 d = true ∧ depD d ≤ 2 := by decide +kernel
def cSpoilt (dm : Nat) : Ct := fun ds S Q _ => ∃ n v l, ds = [.obj n, v] ∧ Cup n S ∧ okD l v = true ∧ depD v ≤ dm ∧ dm ≤ 50 ∧ 3 ≤ l ∧ l + dm ≤ 1000 ∧ ∀ r S', okD (l + dm + 1) r = true → depD r ≤ dm + 2 → CupR n S S' → Q r S'
theorem cut_to {xs : List D} {k : Int} (h : 0 ≤ k) : Dx.cutD xs none (some k) = xs.take k.toNat := by
  unfold Dx.cutD HT.sIx
  simp only [List.drop_zero, Nat.sub_zero]
  split
  · omega
  · rcases Nat.le_total k.toNat xs.length with h1 | h1
    · simp [Nat.min_eq_left h1]
    · simp [Nat.min_eq_right h1, List.take_of_length_le h1]
theorem cut_from {xs : List D} {k : Int} (h : 0 ≤ k) : Dx.cutD xs (some k) none = xs.drop k.toNat := by
  unfold Dx.cutD HT.sIx
  simp
  split
  · omega
  · rcases Nat.le_total k.toNat xs.length with h1 | h1
    · simp [Nat.min_eq_left h1]
      rw [List.take_of_length_le (by simp)]
    · simp [Nat.min_eq_right h1, List.drop_of_length_le h1]
theorem cut_sub {xs : List D} {lo hi : Option Int} : ∀ d ∈ Dx.cutD xs lo hi, d ∈ xs := fun d h => by
  unfold Dx.cutD at h
  exact List.mem_of_mem_drop (List.mem_of_mem_take h)
theorem cut_len {xs : List D} {lo hi : Option Int} : (Dx.cutD xs lo hi).length ≤ xs.length := by
  unfold Dx.cutD
  simp
  omega
theorem cut_one {xs : List D} {k : Int} (h : 0 ≤ k) : (Dx.cutD xs (some k) (some (k + 1))).length ≤ 1 := by
  unfold Dx.cutD HT.sIx
  simp
  split <;> split <;> omega
theorem fdiv_abs {a : Int} {g : Nat} (hg : 0 < g) (hd : g ∣ a.natAbs) : (a.fdiv (g : Int)).natAbs = a.natAbs / g := by
  obtain ⟨c, hc⟩ := Int.ofNat_dvd_left.mpr hd
  rw [hc, Int.mul_fdiv_cancel_left _ (by omega)]
  rw [Int.natAbs_mul, Int.natAbs_natCast, Nat.mul_div_cancel_left _ hg]
theorem made_form {a b : Int} (h : 0 < b) : ∃ x y : Int, madeD a b = .tup [.int x, .int y] ∧ 0 < y ∧ y ≤ b ∧ x.natAbs ≤ a.natAbs ∧ Nat.gcd x.natAbs y.natAbs = 1 := by
  have hg := gcd_pos (a := a) h
  have h1 := fdiv_abs (a := a) hg (Nat.gcd_dvd_left _ _)
  have h2 := fdiv_abs (a := b) hg (Nat.gcd_dvd_right _ _)
  refine ⟨_, _, rfl, ?_, ?_, ?_, ?_⟩
  · rw [Int.fdiv_eq_ediv_of_nonneg _ (by omega)]
    have hd : ((Nat.gcd a.natAbs b.natAbs : Nat) : Int) ∣ b := Int.gcd_dvd_right ..
    exact Int.ediv_pos_of_pos_of_dvd h (by omega) hd
  · rw [Int.fdiv_eq_ediv_of_nonneg _ (by omega)]
    exact Int.ediv_le_self _ (by omega)
  · rw [h1]
    exact Nat.div_le_self _ _
  · rw [h1, h2]
    exact Nat.gcd_div_gcd_div_gcd_of_pos_right (by omega)
theorem made_ok2 {a b : Int} (h : 0 < b) (ha : a.natAbs ≤ 1000000000000) (hb : b ≤ 1000000000000) (l : Nat) (hl : 2 ≤ l) : okD l (madeD a b) = true ∧ depD (madeD a b) ≤ 1 ∧ isFrac (madeD a b) = true ∧ isAny (madeD a b) = true := by
  obtain ⟨x, y, e, h1, h2, h3, h4⟩ := made_form (a := a) h
  rw [e]
  have hp : 1000000000000 < 2 ^ 4000 := by decide
  refine ⟨okD_tup.mpr ⟨by simpa using hl, fun d hd => ?_⟩, by simp [depD, depDs], ?_, ?_⟩
  · simp at hd
    rcases hd with rfl | rfl
    · exact okD_int.mpr (by omega)
    · exact okD_int.mpr (by omega)
  · simp [isFrac, h1, h4]; omega
  · simp [isAny, h1, h4]
abbrev cupT (s t o u w d x y : Option D) : Dx.Env := [s, some (.obj 0), t, o, u, w, d, x, y]
/-! ### words in lists -/
theorem anyB_in {x : D} {ds : List D} {τ : Dx.Env} {S : Store} {Q : D → Store → Prop} {E : QX} (hx : datD x = true) (dx : depD x ≤ 64) (hd : datDs ds = true) (dd : depDs ds ≤ 63) :
    inG x (.tup ds) τ S Q E = Q (.bl (ds.any fun z => eqD z x)) S ∧ inG x (.lst ds) τ S Q E = Q (.bl (ds.any fun z => eqD z x)) S ∧ ninG x (.tup ds) τ S Q E = Q (.bl (!ds.any fun z => eqD z x)) S := by
  have h1 : cmpOk (.tup ds) = true := by simp [cmpOk, datD, hd, depD]; omega
  have h2 : cmpOk (.lst ds) = true := by simp [cmpOk, datD, hd, depD]; omega
  have h3 : cmpOk x = true := by simp [cmpOk, hx]; omega
  have g := dat_get S hx
  have gt : getS S (.tup ds) = .tup ds := rfl
  have gl : getS S (.lst ds) = .lst ds := rfl
  refine ⟨?_, ?_, ?_⟩
  · simp [inG, optF, inO, seqD, g, gt, h1, h3]
  · simp [inG, optF, inO, seqD, g, gl, h2, h3]
  · simp [ninG, optF, inO, seqD, g, gt, h1, h3]
theorem eqG_ss {a b : Str} {τ : Dx.Env} {S : Store} {Q : D → Store → Prop} {E : QX} (ha : datD (.str a) = true) (hb : datD (.str b) = true) : eqG (.str a) (.str b) τ S Q E = Q (.bl (a == b)) S := by
  unfold eqG optF
  rw [eqO_of ha hb (by simp [depD]) (by simp [depD])]
  simp only [eqD]
theorem neG_ss {a b : Str} {τ : Dx.Env} {S : Store} {Q : D → Store → Prop} {E : QX} (ha : datD (.str a) = true) (hb : datD (.str b) = true) : neG (.str a) (.str b) τ S Q E = Q (.bl (!(a == b))) S := by
  unfold neG optF
  rw [neO_of ha hb (by simp [depD]) (by simp [depD])]
  simp only [eqD]
/-! ### lines -/
def lastB (xs : List D) : Bool := match xs.getLast? with
  | none => true
  | some (.int i) => decide (i ≠ 0)
  | some _ => false
def lineB : D → Bool
  | .tup xs => decide (xs.length ≤ 9) && (xs.all (fun d => wholeB d (-1000000) 1000000) && lastB xs)
  | _ => false
theorem allSome_map {f : D → Bool} : ∀ {ds : List D}, allSome asBl (ds.map fun d => .bl (f d)) = some (ds.map f)
  | [] => rfl
  | d :: ds => by simp [allSome, asBl, allSome_map (ds := ds)]
theorem ixN_last {n : Nat} (h : 0 < n) : L2.ixN n (-1) = some (n - 1) := by
  unfold L2.ixN
  rw [if_neg (by omega), if_pos (by omega)]
  congr 1
  omega
theorem last_at {xs : List D} (h : xs ≠ []) : ∃ d, L2.atI xs (-1) = some d ∧ d ∈ xs ∧ ∀ i, d = .int i → lastB xs = decide (i ≠ 0) := by
  have hp : 0 < xs.length := List.length_pos_iff.mpr h
  have e : L2.atI xs (-1) = xs.getLast? := by
    unfold L2.atI
    rw [ixN_last hp, List.getLast?_eq_getElem?]
    rfl
  refine ⟨xs.getLast h, by rw [e, List.getLast?_eq_some_getLast h], List.getLast_mem h, fun i hi => ?_⟩
  unfold lastB
  rw [List.getLast?_eq_some_getLast h, hi]
def cLine : Ct := fun ds S Q _ => ∃ v l, ds = [v] ∧ okD l v = true ∧ l ≤ 10000 ∧ Q (.bl (lineB v)) S
theorem whole_int {d : D} {a b : Int} (h : wholeB d a b = true) : ∃ i, d = .int i ∧ a ≤ i ∧ i ≤ b := by
  unfold wholeB at h
  split at h
  · rename_i i
    simp at h
    exact ⟨i, rfl, h.1, h.2⟩
  · cases h
theorem p6 : cPow 10 6 = true := by decide
def cLLine : Ct := fun ds S Q _ => ∃ v l, ds = [v] ∧ okD l v = true ∧ l ≤ 10000 ∧ depD v ≤ 60 ∧ Q (.bl (lineB v)) S
theorem llwhole_len {xs : List D} {p : D → Bool} : (xs.filter p).length ≤ xs.length := List.length_filter_le _ _
theorem filt_dat {xs : List D} {p : D → Bool} {l n : Nat} (h : ∀ d ∈ xs, okD l d = true) (hd : ∀ d ∈ xs, depD d ≤ n) : datD (.lst (xs.filter p)) = true ∧ depD (.lst (xs.filter p)) ≤ n + 1 := by
  have h3 : ∀ ds : List D, (∀ d ∈ ds, datD d = true) → datDs ds = true := by
    intro ds
    induction ds with
    | nil => intro _; rfl
    | cons d r ih => intro h; simp [datDs, h d (by simp), ih fun z hz => h z (by simp [hz])]
  refine ⟨?_, depD_lst.mpr fun d hd2 => hd d (List.mem_filter.mp hd2).1⟩
  simpa [datD] using h3 _ fun d hd2 => okD_dat (h d (List.mem_filter.mp hd2).1)
theorem nil_eq {xs : List D} {p : D → Bool} : eqD (.lst (xs.filter p)) (.lst []) = !xs.any p := by
  have e : ∀ ys : List D, eqD (.lst ys) (.lst []) = ys.isEmpty := fun ys => by cases ys <;> rfl
  rw [e]
  induction xs with
  | nil => rfl
  | cons x t ih =>
    cases hp : p x with
    | true => simp [hp]
    | false => simp [hp] at ih ⊢; exact ih
theorem frac_form {v : D} (h : isFrac v = true) : ∃ a b, v = .tup [.int a, .int b] ∧ 0 < b ∧ Nat.gcd a.natAbs b.natAbs = 1 ∧ a.natAbs ≤ 1000000000000 ∧ b ≤ 1000000000000 := by
  unfold isFrac at h
  split at h
  · rename_i a b
    simp at h
    exact ⟨a, b, rfl, h.1.1, h.1.2, h.2.1, h.2.2⟩
  · cases h
theorem len4 {α : Type} {l : List α} (h : l.length = 4) : ∃ a b c d, l = [a, b, c, d] := by
  match l, h with
  | [a, b, c, d], _ => exact ⟨a, b, c, d, rfl⟩
def boxB : D → Bool
  | .tup [a, b, c, d] => (isFrac a && isFrac b && isFrac c && isFrac d) && (!lessB b a && !lessB d c)
  | _ => false
theorem boxB_len {xs : List D} (h : ¬ xs.length = 4) : boxB (.tup xs) = false := by
  unfold boxB
  split
  · rename_i q; cases q; simp at h
  · rfl
theorem cm {a b : Int} (h1 : a.natAbs ≤ 1000000000000) (h2 : 0 < b) (h3 : b ≤ 1000000000000) : cMul a b = true := cmul_ok (by
  have : (1000000000000 : Nat) < 2 ^ 4000 := by decide
  omega) (by
  have : (1000000000000 : Nat) < 2 ^ 4000 := by decide
  omega)
def cBox : Ct := fun ds S Q _ => ∃ v l, ds = [v] ∧ okD l v = true ∧ l ≤ 10000 ∧ Q (.bl (boxB v)) S
def cLBox : Ct := fun ds S Q _ => ∃ v l, ds = [v] ∧ okD l v = true ∧ l ≤ 10000 ∧ depD v ≤ 60 ∧ Q (.bl (boxB v)) S
/-- pairs of ints, strictly ascending -/
def isPair (d : D) : Prop := ∃ x y : Int, d = pairD x y
def ltPair : D → Bool
  | .tup [a, b] => ltD a b
  | _ => false
def ascB : List D → Bool
  | a :: b :: r => ltD a b && ascB (b :: r)
  | _ => true
theorem pair_lt_iff {x y z w : Int} : ltD (pairD x y) (pairD z w) = true ↔ x < z ∨ (x = z ∧ y < w) := by
  simp only [Dx.pairD, ltD, ltDs, eqD]
  by_cases h : x = z
  · subst h
    by_cases h2 : y = w
    · subst h2
      simp
    · simp [h2]
  · simp [h]
theorem pair_inj {x y z w : Int} : pairD x y = pairD z w ↔ x = z ∧ y = w := by simp [Dx.pairD]
theorem pair_irr {a : D} (h : isPair a) : ltD a a = false := by
  obtain ⟨x, y, rfl⟩ := h
  cases q : ltD (pairD x y) (pairD x y) with
  | false => rfl
  | true => have := pair_lt_iff.mp q; omega
theorem pair_trans {a b c : D} (ha : isPair a) (hb : isPair b) (hc : isPair c) (h1 : ltD a b = true) (h2 : ltD b c = true) : ltD a c = true := by
  obtain ⟨x, y, rfl⟩ := ha
  obtain ⟨z, w, rfl⟩ := hb
  obtain ⟨u, v, rfl⟩ := hc
  have := pair_lt_iff.mp h1
  have := pair_lt_iff.mp h2
  exact pair_lt_iff.mpr (by omega)
theorem asc_pw : ∀ {ds : List D}, (∀ d ∈ ds, isPair d) → ascB ds = true → ds.Pairwise (fun x y => ltD x y = true)
  | [], _, _ => List.Pairwise.nil
  | [a], _, _ => List.pairwise_singleton _ _
  | a :: b :: r, hp, h => by
    simp only [ascB, Bool.and_eq_true] at h
    have ih := asc_pw (ds := b :: r) (fun d hd => hp d (List.mem_cons_of_mem _ hd)) h.2
    refine List.pairwise_cons.mpr ⟨fun c hc => ?_, ih⟩
    rcases List.mem_cons.mp hc with rfl | hc'
    · exact h.1
    · exact pair_trans (hp a (by simp)) (hp b (by simp)) (hp c (List.mem_cons_of_mem _ hc)) h.1 ((List.pairwise_cons.mp ih).1 c hc')
theorem pw_asc : ∀ {ds : List D}, ds.Pairwise (fun x y => ltD x y = true) → ascB ds = true
  | [], _ => rfl
  | [a], _ => rfl
  | a :: b :: r, h => by
    obtain ⟨h1, h2⟩ := List.pairwise_cons.mp h
    simp only [ascB, h1 b (by simp), Bool.true_and]
    exact pw_asc h2
theorem same_asc : ∀ {ds es : List D}, (∀ d ∈ ds, isPair d) → ds.Pairwise (fun x y => ltD x y = true) → es.Pairwise (fun x y => ltD x y = true) → (∀ x, x ∈ es ↔ x ∈ ds) → ds = es
  | [], [], _, _, _, _ => rfl
  | [], e :: es, _, _, _, h => absurd ((h e).mp (by simp)) (by simp)
  | d :: ds, [], _, _, _, h => absurd ((h d).mpr (by simp)) (by simp)
  | d :: ds, e :: es, hp, h1, h2, h => by
    obtain ⟨a1, a2⟩ := List.pairwise_cons.mp h1
    obtain ⟨b1, b2⟩ := List.pairwise_cons.mp h2
    have he : isPair e := hp e ((h e).mp (by simp))
    have hd : isPair d := hp d (by simp)
    have ede : d = e := by
      rcases List.mem_cons.mp ((h e).mp (by simp)) with q | q
      · exact q.symm
      · rcases List.mem_cons.mp ((h d).mpr (by simp)) with q2 | q2
        · exact q2
        · have := pair_trans hd he hd (a1 e q) (b1 d q2)
          rw [pair_irr hd] at this
          cases this
    subst ede
    have := same_asc (ds := ds) (es := es) (fun x hx => hp x (List.mem_cons_of_mem _ hx)) a2 b2 fun x => ⟨fun hx => ?_, fun hx => ?_⟩
    · rw [this]
    · rcases List.mem_cons.mp ((h x).mp (List.mem_cons_of_mem _ hx)) with rfl | q
      · have := b1 x hx
        rw [pair_irr hd] at this
        cases this
      · exact q
    · rcases List.mem_cons.mp ((h x).mpr (List.mem_cons_of_mem _ hx)) with rfl | q
      · have := a1 x hx
        rw [pair_irr hd] at this
        cases this
      · exact q
theorem pair_eqD {a b : D} (ha : isPair a) (hb : isPair b) : eqD a b = true ↔ a = b := by
  obtain ⟨x, y, rfl⟩ := ha
  obtain ⟨z, w, rfl⟩ := hb
  simp [Dx.pairD, eqD, eqDs]
theorem pairs_eqD : ∀ {ds es : List D}, (∀ d ∈ ds, isPair d) → (∀ d ∈ es, isPair d) → (eqDs ds es = true ↔ ds = es)
  | [], [], _, _ => by simp [eqDs]
  | [], _ :: _, _, _ => by simp [eqDs]
  | _ :: _, [], _, _ => by simp [eqDs]
  | d :: ds, e :: es, h1, h2 => by
    simp only [eqDs, Bool.and_eq_true, List.cons.injEq]
    rw [pair_eqD (h1 d (by simp)) (h2 e (by simp)), pairs_eqD (fun x hx => h1 x (by simp [hx])) (fun x hx => h2 x (by simp [hx]))]
/-- powers == sorted(set(powers)) -/
theorem asc_set {ds es : List D} (hp : ∀ d ∈ ds, isPair d) (h2 : es.Pairwise (fun x y => ltD x y = true)) (h : ∀ x, x ∈ es ↔ x ∈ ds) : eqD (.lst ds) (.lst es) = ascB ds := by
  have hq : ∀ d ∈ es, isPair d := fun d hd => hp d ((h d).mp hd)
  simp only [eqD]
  cases q : ascB ds with
  | true => exact (pairs_eqD hp hq).mpr (same_asc hp (asc_pw hp q) h2 h)
  | false =>
    cases q2 : eqDs ds es with
    | false => rfl
    | true =>
      have e := (pairs_eqD hp hq).mp q2
      rw [e, pw_asc h2] at q
      cases q
theorem zip_asc : ∀ (ds : List D), (zipD ds ds.tail).all ltPair = ascB ds
  | [] => rfl
  | [a] => rfl
  | a :: b :: r => by
    have ih := zip_asc (b :: r)
    simp only [List.tail_cons, zipD, List.zipWith_cons_cons, List.all_cons] at ih ⊢
    rw [ascB, ← ih]
    rfl
theorem pair_cmp {a : D} (h : isPair a) : cmpOk a = true := by
  obtain ⟨x, y, rfl⟩ := h
  rfl
theorem pair_cmpD {a b : D} (h : isPair a) (h' : isPair b) : cmpD a b = true := by
  obtain ⟨x, y, rfl⟩ := h
  obtain ⟨z, w, rfl⟩ := h'
  simp [Dx.pairD, cmpD, cmpDs]
def cAsc : Ct := fun ds S Q _ => ∃ ps, ds = [.tup ps] ∧ ps.length ≤ 1000 ∧ (∀ d ∈ ps, isPair d) ∧ Q (.bl (ascB ps)) S
theorem tail_cut {ps : List D} : Dx.cutD ps (some 1) none = ps.tail := by
  cases ps with
  | nil => rfl
  | cons a r =>
    unfold Dx.cutD HT.sIx
    simp
theorem asc_ok (ds : List D) (S : Store) (Q : D → Store → Prop) (E : QX) (h : cAsc ds S Q E) : fsis_ascending (bodyEnds Q E) (startE Nis_ascending ds) S := by
  obtain ⟨ps, rfl, hl, hp, hq⟩ := h
  have hs := sizeLine_eq
  simp only [fsis_ascending, retS, biE, bindF, consF, nilF]
  refine compF_val (zipD ps ps.tail) (fun _ => True) (fun _ => true) (fun d => .bl (ltPair d)) (fun Q h => ?_) trivial ?_ (fun d hd => ?_) ?_
  · simp [seqS, setS, retS, retN, exprS, nilS, ifS, parS, asgS, bindT, bindTs, bindF, callC, varF, retF, consF, nilF, iteV, truF, truD, notF, andF, orF, andV, orV, notV, chF, chT, bodyEnds, startE, optF, idxF, slcF, intF, noF, newL, tyD, isiT, isiB, lenB, absB, intB, gcdB, tupB, lstB, ltG, leG, gtG, geG, isG, isnG, o2I, isO, getS, addF, subF, mulF, eqG_ii, neG_ii, neG_bb, fdivG, modG, powG, raiseS, wipeE, Nis_ascending, tail_cut, zipI]
    exact h
  · unfold zipD
    rw [List.length_zipWith]
    omega
  · obtain ⟨i, hi⟩ := List.getElem?_of_mem hd
    obtain ⟨a, b, h1, h2, rfl⟩ := zipD_get hi
    have ha := hp a (List.mem_of_getElem? h1)
    have hb := hp b (List.mem_of_mem_tail (List.mem_of_getElem? h2))
    refine ⟨_, rfl, fun Q h => h, fun _ Q h => ?_⟩
    simp [seqS, setS, retS, retN, exprS, nilS, ifS, parS, asgS, bindT, bindTs, bindF, callC, varF, retF, consF, nilF, iteV, truF, truD, notF, andF, orF, andV, orV, notV, chF, chT, bodyEnds, startE, optF, idxF, slcF, intF, noF, newL, tyD, isiT, isiB, lenB, absB, intB, gcdB, tupB, lstB, ltG, leG, gtG, geG, isG, isnG, o2I, isO, getS, addF, subF, mulF, eqG_ii, neG_ii, neG_bb, fdivG, modG, powG, raiseS, wipeE, lttG, lttO, pair_cmp ha, pair_cmp hb, pair_cmpD ha hb]
    exact h
  · have ef : (zipD ps ps.tail).filter (fun _ => true) = zipD ps ps.tail := by simp
    rw [ef]
    simp only [retF, Dx.allB, optF, getS, allSome_map, Option.map_some]
    have e : ((zipD ps ps.tail).map ltPair).all id = ascB ps := by
      rw [← zip_asc]
      simp
    rw [e]
    exact hq

def termB : D → Bool
  | .tup [.tup [.int p, .int q], .int c] => (decide (0 ≤ p) && decide (p ≤ 4) && (decide (0 ≤ q) && decide (q ≤ 4))) && (decide (p + q ≤ 4) && ((decide (-1000000 ≤ c) && decide (c ≤ 1000000)) && !decide (c = 0)))
  | _ => false
theorem term_form {v : D} (h : termB v = true) : ∃ p q c : Int, v = .tup [pairD p q, .int c] ∧ 0 ≤ p ∧ p ≤ 4 ∧ 0 ≤ q ∧ q ≤ 4 ∧ p + q ≤ 4 ∧ -1000000 ≤ c ∧ c ≤ 1000000 ∧ c ≠ 0 := by
  unfold termB at h
  split at h
  · rename_i p q c
    simp at h
    exact ⟨p, q, c, rfl, by omega, by omega, by omega, by omega, by omega, by omega, by omega, h.2.2.2⟩
  · cases h
theorem bfalse {b : Bool} (h : b = true → False) : b = false := by cases b <;> simp_all
theorem term_len {xs : List D} (h : ¬ xs.length = 2) : termB (.tup xs) = false := bfalse fun q => by
  obtain ⟨a, b, c, e, _⟩ := term_form q
  injection e with e
  rw [e] at h
  exact h rfl
def cTerm : Ct := fun ds S Q _ => ∃ v l, ds = [v] ∧ okD l v = true ∧ l ≤ 10000 ∧ Q (.bl (termB v)) S
theorem not22 {n : Nat} (h : ¬ n = 2) : (decide (2 ≤ (n : Int)) && decide ((n : Int) ≤ 2)) = false := by
  have : ¬ (2 ≤ (n : Int) ∧ (n : Int) ≤ 2) := by omega
  simpa using this
theorem term_ok (ds : List D) (S : Store) (Q : D → Store → Prop) (E : QX) (h : cTerm ds S Q E) : fsfits_term cIsTup cWhole (bodyEnds Q E) (startE Nfits_term ds) S := by
  obtain ⟨v, l, rfl, hv, hl, hq⟩ := h
  have hs := sizeLine_eq
  have hd := okD_dat hv
  simp [fsfits_term, seqS, setS, retS, retN, exprS, nilS, ifS, parS, asgS, bindT, bindTs, bindF, callC, varF, retF, consF, nilF, iteV, truF, truD, notF, andF, orF, andV, orV, notV, chF, chT, bodyEnds, startE, optF, idxF, slcF, intF, noF, newL, tyD, isiT, isiB, lenB, absB, intB, gcdB, tupB, lstB, ltG, leG, gtG, geG, isG, isnG, o2I, isO, getS, addF, subF, mulF, eqG_ii, neG_ii, neG_bb, fdivG, modG, powG, raiseS, wipeE, Nfits_term]
  refine ⟨v, 2, 2, rfl, hd, ?_⟩
  cases v with
  | tup xs =>
    have hx := okD_tup.mp hv
    by_cases h2 : xs.length = 2
    · obtain ⟨x, c, rfl⟩ := len2 h2
      have ox := hx.2 x (by simp)
      have oc := hx.2 c (by simp)
      simp [seqS, setS, retS, retN, exprS, nilS, ifS, parS, asgS, bindT, bindTs, bindF, callC, varF, retF, consF, nilF, iteV, truF, truD, notF, andF, orF, andV, orV, notV, chF, chT, bodyEnds, startE, optF, idxF, slcF, intF, noF, newL, tyD, isiT, isiB, lenB, absB, intB, gcdB, tupB, lstB, ltG, leG, gtG, geG, isG, isnG, o2I, isO, getS, addF, subF, mulF, eqG_ii, neG_ii, neG_bb, fdivG, modG, powG, raiseS, wipeE, L2.atI, L2.ixN]
      refine ⟨x, 2, 2, rfl, okD_dat ox, ?_⟩
      cases x with
      | tup zs =>
        have hz := okD_tup.mp ox
        by_cases h3 : zs.length = 2
        · obtain ⟨p, q, rfl⟩ := len2 h3
          have op := hz.2 p (by simp)
          have oq := hz.2 q (by simp)
          simp [seqS, setS, retS, retN, exprS, nilS, ifS, parS, asgS, bindT, bindTs, bindF, callC, varF, retF, consF, nilF, iteV, truF, truD, notF, andF, orF, andV, orV, notV, chF, chT, bodyEnds, startE, optF, idxF, slcF, intF, noF, newL, tyD, isiT, isiB, lenB, absB, intB, gcdB, tupB, lstB, ltG, leG, gtG, geG, isG, isnG, o2I, isO, getS, addF, subF, mulF, eqG_ii, neG_ii, neG_bb, fdivG, modG, powG, raiseS, wipeE, L2.atI, L2.ixN]
          refine compF_val [p, q] (fun _ => True) (fun _ => true) (fun d => .bl (wholeB d 0 4)) (fun Q h => ?_) trivial (by simp; omega) (fun e he => ⟨_, rfl, fun Q h => h, fun _ Q h => ?_⟩) ?_
          · simp [seqS, setS, retS, retN, exprS, nilS, ifS, parS, asgS, bindT, bindTs, bindF, callC, varF, retF, consF, nilF, iteV, truF, truD, notF, andF, orF, andV, orV, notV, chF, chT, bodyEnds, startE, optF, idxF, slcF, intF, noF, newL, tyD, isiT, isiB, lenB, absB, intB, gcdB, tupB, lstB, ltG, leG, gtG, geG, isG, isnG, o2I, isO, getS, addF, subF, mulF, eqG_ii, neG_ii, neG_bb, fdivG, modG, powG, raiseS, wipeE, itsF, L2.atI, L2.ixN]; exact h
          · simp [seqS, setS, retS, retN, exprS, nilS, ifS, parS, asgS, bindT, bindTs, bindF, callC, varF, retF, consF, nilF, iteV, truF, truD, notF, andF, orF, andV, orV, notV, chF, chT, bodyEnds, startE, optF, idxF, slcF, intF, noF, newL, tyD, isiT, isiB, lenB, absB, intB, gcdB, tupB, lstB, ltG, leG, gtG, geG, isG, isnG, o2I, isO, getS, addF, subF, mulF, eqG_ii, neG_ii, neG_bb, fdivG, modG, powG, raiseS, wipeE]
            exact ⟨e, _, _, rfl, okD_dat (hz.2 e he), h⟩
          · have ef : [p, q].filter (fun _ => true) = [p, q] := by simp
            rw [ef]
            simp only [Dx.allB, optF, getS, allSome_map, Option.map_some]
            by_cases ha : wholeB p 0 4 = true ∧ wholeB q 0 4 = true
            · obtain ⟨i, rfl, i1, i2⟩ := whole_int ha.1
              obtain ⟨j, rfl, j1, j2⟩ := whole_int ha.2
              simp [ha, seqS, setS, retS, retN, exprS, nilS, ifS, parS, asgS, bindT, bindTs, bindF, callC, varF, retF, consF, nilF, iteV, truF, truD, notF, andF, orF, andV, orV, notV, chF, chT, bodyEnds, startE, optF, idxF, slcF, intF, noF, newL, tyD, isiT, isiB, lenB, absB, intB, gcdB, tupB, lstB, ltG, leG, gtG, geG, isG, isnG, o2I, isO, getS, addF, subF, mulF, eqG_ii, neG_ii, neG_bb, fdivG, modG, powG, raiseS, wipeE, L2.atI, L2.ixN]
              by_cases hsum : 4 < i + j
              · have e : termB (.tup [.tup [.int i, .int j], c]) = false := bfalse fun q => by
                  obtain ⟨a, b, k, e, _, _, _, _, h5, _⟩ := term_form q
                  simp [Dx.pairD] at e
                  omega
                rw [e] at hq
                simp [hsum, seqS, setS, retS, retN, exprS, nilS, ifS, parS, asgS, bindT, bindTs, bindF, callC, varF, retF, consF, nilF, iteV, truF, truD, notF, andF, orF, andV, orV, notV, chF, chT, bodyEnds, startE, optF, idxF, slcF, intF, noF, newL, tyD, isiT, isiB, lenB, absB, intB, gcdB, tupB, lstB, ltG, leG, gtG, geG, isG, isnG, o2I, isO, getS, addF, subF, mulF, eqG_ii, neG_ii, neG_bb, fdivG, modG, powG, raiseS, wipeE]
                exact hq
              · simp [hsum, seqS, setS, retS, retN, exprS, nilS, ifS, parS, asgS, bindT, bindTs, bindF, callC, varF, retF, consF, nilF, iteV, truF, truD, notF, andF, orF, andV, orV, notV, chF, chT, bodyEnds, startE, optF, idxF, slcF, intF, noF, newL, tyD, isiT, isiB, lenB, absB, intB, gcdB, tupB, lstB, ltG, leG, gtG, geG, isG, isnG, o2I, isO, getS, addF, subF, mulF, eqG_ii, neG_ii, neG_bb, fdivG, modG, powG, raiseS, wipeE, L2.atI, L2.ixN]
                refine ⟨c, _, _, rfl, okD_dat oc, ?_⟩
                by_cases hc : wholeB c (-1000000) 1000000 = true
                · obtain ⟨k, rfl, k1, k2⟩ := whole_int hc
                  have e : termB (.tup [.tup [.int i, .int j], .int k]) = !decide (k = 0) := by
                    simp [termB, i1, i2, j1, j2, k1, k2]
                    omega
                  rw [e] at hq
                  simp [hc, seqS, setS, retS, retN, exprS, nilS, ifS, parS, asgS, bindT, bindTs, bindF, callC, varF, retF, consF, nilF, iteV, truF, truD, notF, andF, orF, andV, orV, notV, chF, chT, bodyEnds, startE, optF, idxF, slcF, intF, noF, newL, tyD, isiT, isiB, lenB, absB, intB, gcdB, tupB, lstB, ltG, leG, gtG, geG, isG, isnG, o2I, isO, getS, addF, subF, mulF, eqG_ii, neG_ii, neG_bb, fdivG, modG, powG, raiseS, wipeE, L2.atI, L2.ixN]
                  simpa using hq
                · have e : termB (.tup [.tup [.int i, .int j], c]) = false := bfalse fun q => by
                    obtain ⟨a, b, k, e, _, _, _, _, _, h6, h7, _⟩ := term_form q
                    simp at e
                    rw [e.2] at hc
                    exact hc (by simp [wholeB, h6, h7])
                  rw [e] at hq
                  simp [hc, seqS, setS, retS, retN, exprS, nilS, ifS, parS, asgS, bindT, bindTs, bindF, callC, varF, retF, consF, nilF, iteV, truF, truD, notF, andF, orF, andV, orV, notV, chF, chT, bodyEnds, startE, optF, idxF, slcF, intF, noF, newL, tyD, isiT, isiB, lenB, absB, intB, gcdB, tupB, lstB, ltG, leG, gtG, geG, isG, isnG, o2I, isO, getS, addF, subF, mulF, eqG_ii, neG_ii, neG_bb, fdivG, modG, powG, raiseS, wipeE]
                  exact hq
            · have e : termB (.tup [.tup [p, q], c]) = false := bfalse fun z => by
                obtain ⟨a, b, k, e, h1, h2, h3, h4, _⟩ := term_form z
                simp [Dx.pairD] at e
                rw [e.1.1, e.1.2] at ha
                exact ha ⟨by simp [wholeB, h1, h2], by simp [wholeB, h3, h4]⟩
              rw [e] at hq
              have e2 : (List.map (fun d => wholeB d 0 4) [p, q]).all id = false := bfalse fun z => ha (by simpa using z)
              simp only [e2]
              simp [seqS, setS, retS, retN, exprS, nilS, ifS, parS, asgS, bindT, bindTs, bindF, callC, varF, retF, consF, nilF, iteV, truF, truD, notF, andF, orF, andV, orV, notV, chF, chT, bodyEnds, startE, optF, idxF, slcF, intF, noF, newL, tyD, isiT, isiB, lenB, absB, intB, gcdB, tupB, lstB, ltG, leG, gtG, geG, isG, isnG, o2I, isO, getS, addF, subF, mulF, eqG_ii, neG_ii, neG_bb, fdivG, modG, powG, raiseS, wipeE]
              exact hq
        · have e : termB (.tup [.tup zs, c]) = false := bfalse fun q => by
            obtain ⟨a, b, k, e, _⟩ := term_form q
            simp [Dx.pairD] at e
            rw [e.1] at h3
            exact h3 rfl
          rw [e] at hq
          simp [not22 h3, seqS, setS, retS, retN, exprS, nilS, ifS, parS, asgS, bindT, bindTs, bindF, callC, varF, retF, consF, nilF, iteV, truF, truD, notF, andF, orF, andV, orV, notV, chF, chT, bodyEnds, startE, optF, idxF, slcF, intF, noF, newL, tyD, isiT, isiB, lenB, absB, intB, gcdB, tupB, lstB, ltG, leG, gtG, geG, isG, isnG, o2I, isO, getS, addF, subF, mulF, eqG_ii, neG_ii, neG_bb, fdivG, modG, powG, raiseS, wipeE]
          exact hq
      | _ => simp [termB] at hq; simp [seqS, setS, retS, retN, exprS, nilS, ifS, parS, asgS, bindT, bindTs, bindF, callC, varF, retF, consF, nilF, iteV, truF, truD, notF, andF, orF, andV, orV, notV, chF, chT, bodyEnds, startE, optF, idxF, slcF, intF, noF, newL, tyD, isiT, isiB, lenB, absB, intB, gcdB, tupB, lstB, ltG, leG, gtG, geG, isG, isnG, o2I, isO, getS, addF, subF, mulF, eqG_ii, neG_ii, neG_bb, fdivG, modG, powG, raiseS, wipeE]; exact hq
    · rw [term_len h2] at hq
      simp [not22 h2, seqS, setS, retS, retN, exprS, nilS, ifS, parS, asgS, bindT, bindTs, bindF, callC, varF, retF, consF, nilF, iteV, truF, truD, notF, andF, orF, andV, orV, notV, chF, chT, bodyEnds, startE, optF, idxF, slcF, intF, noF, newL, tyD, isiT, isiB, lenB, absB, intB, gcdB, tupB, lstB, ltG, leG, gtG, geG, isG, isnG, o2I, isO, getS, addF, subF, mulF, eqG_ii, neG_ii, neG_bb, fdivG, modG, powG, raiseS, wipeE]
      exact hq
  | _ => simp [termB] at hq; simp [seqS, setS, retS, retN, exprS, nilS, ifS, parS, asgS, bindT, bindTs, bindF, callC, varF, retF, consF, nilF, iteV, truF, truD, notF, andF, orF, andV, orV, notV, chF, chT, bodyEnds, startE, optF, idxF, slcF, intF, noF, newL, tyD, isiT, isiB, lenB, absB, intB, gcdB, tupB, lstB, ltG, leG, gtG, geG, isG, isnG, o2I, isO, getS, addF, subF, mulF, eqG_ii, neG_ii, neG_bb, fdivG, modG, powG, raiseS, wipeE]; exact hq
/-- a term's powers -/
def powD : D → D
  | .tup (p :: _) => p
  | d => d
def surfB : D → Bool
  | .tup xs => decide (xs.length ≤ 15) && (xs.all termB && ascB (xs.map powD))
  | _ => false
theorem pow_pair {xs : List D} (h : xs.all termB = true) : ∀ d ∈ xs.map powD, isPair d := fun d hd => by
  obtain ⟨v, hv, rfl⟩ := List.mem_map.mp hd
  rw [List.all_eq_true] at h
  obtain ⟨p, q, c, rfl, _⟩ := term_form (h v hv)
  exact ⟨p, q, rfl⟩
def cSurf : Ct := fun ds S Q _ => ∃ v l, ds = [v] ∧ okD l v = true ∧ l ≤ 10000 ∧ Q (.bl (surfB v)) S
theorem surf_ok (ds : List D) (S : Store) (Q : D → Store → Prop) (E : QX) (h : cSurf ds S Q E) : fsfits_surface cIsTup cTerm cAsc (bodyEnds Q E) (startE Nfits_surface ds) S := by
  obtain ⟨v, l, rfl, hv, hl, hq⟩ := h
  have hs := sizeLine_eq
  have hd := okD_dat hv
  simp [fsfits_surface, seqS, setS, retS, retN, exprS, nilS, ifS, parS, asgS, bindT, bindTs, bindF, callC, varF, retF, consF, nilF, iteV, truF, truD, notF, andF, orF, andV, orV, notV, chF, chT, bodyEnds, startE, optF, idxF, slcF, intF, noF, newL, tyD, isiT, isiB, lenB, absB, intB, gcdB, tupB, lstB, ltG, leG, gtG, geG, isG, isnG, o2I, isO, getS, addF, subF, mulF, eqG_ii, neG_ii, neG_bb, fdivG, modG, powG, raiseS, wipeE, Nfits_surface]
  refine ⟨v, 0, 15, rfl, hd, ?_⟩
  cases v with
  | tup xs =>
    have hx := okD_tup.mp hv
    by_cases h15 : xs.length ≤ 15
    · have e9 : decide ((xs.length : Int) ≤ 15) = true := by simp; omega
      simp [e9, seqS, setS, retS, retN, exprS, nilS, ifS, parS, asgS, bindT, bindTs, bindF, callC, varF, retF, consF, nilF, iteV, truF, truD, notF, andF, orF, andV, orV, notV, chF, chT, bodyEnds, startE, optF, idxF, slcF, intF, noF, newL, tyD, isiT, isiB, lenB, absB, intB, gcdB, tupB, lstB, ltG, leG, gtG, geG, isG, isnG, o2I, isO, getS, addF, subF, mulF, eqG_ii, neG_ii, neG_bb, fdivG, modG, powG, raiseS, wipeE]
      refine compF_val xs (fun _ => True) (fun _ => true) (fun d => .bl (termB d)) (fun Q h => ?_) trivial (by omega) (fun d hd => ⟨_, rfl, fun Q h => h, fun _ Q h => ?_⟩) ?_
      · simp [seqS, setS, retS, retN, exprS, nilS, ifS, parS, asgS, bindT, bindTs, bindF, callC, varF, retF, consF, nilF, iteV, truF, truD, notF, andF, orF, andV, orV, notV, chF, chT, bodyEnds, startE, optF, idxF, slcF, intF, noF, newL, tyD, isiT, isiB, lenB, absB, intB, gcdB, tupB, lstB, ltG, leG, gtG, geG, isG, isnG, o2I, isO, getS, addF, subF, mulF, eqG_ii, neG_ii, neG_bb, fdivG, modG, powG, raiseS, wipeE, itsF]; exact h
      · simp [seqS, setS, retS, retN, exprS, nilS, ifS, parS, asgS, bindT, bindTs, bindF, callC, varF, retF, consF, nilF, iteV, truF, truD, notF, andF, orF, andV, orV, notV, chF, chT, bodyEnds, startE, optF, idxF, slcF, intF, noF, newL, tyD, isiT, isiB, lenB, absB, intB, gcdB, tupB, lstB, ltG, leG, gtG, geG, isG, isnG, o2I, isO, getS, addF, subF, mulF, eqG_ii, neG_ii, neG_bb, fdivG, modG, powG, raiseS, wipeE]
        exact ⟨d, l, rfl, hx.2 d hd, hl, h⟩
      · have ef : xs.filter (fun _ => true) = xs := by simp
        rw [ef]
        simp only [Dx.allB, optF, getS, allSome_map, Option.map_some]
        by_cases ha : xs.all termB = true
        · have e2 : (xs.map termB).all id = true := by simpa using ha
          simp only [surfB, h15, ha, decide_true, Bool.true_and] at hq
          simp only [e2]
          simp [seqS, setS, retS, retN, exprS, nilS, ifS, parS, asgS, bindT, bindTs, bindF, callC, varF, retF, consF, nilF, iteV, truF, truD, notF, andF, orF, andV, orV, notV, chF, chT, bodyEnds, startE, optF, idxF, slcF, intF, noF, newL, tyD, isiT, isiB, lenB, absB, intB, gcdB, tupB, lstB, ltG, leG, gtG, geG, isG, isnG, o2I, isO, getS, addF, subF, mulF, eqG_ii, neG_ii, neG_bb, fdivG, modG, powG, raiseS, wipeE]
          refine compF_val xs (fun _ => True) (fun _ => true) powD (fun Q h => ?_) trivial (by omega) (fun d hd => ⟨_, rfl, fun Q h => h, fun _ Q h => ?_⟩) ?_
          · simp [seqS, setS, retS, retN, exprS, nilS, ifS, parS, asgS, bindT, bindTs, bindF, callC, varF, retF, consF, nilF, iteV, truF, truD, notF, andF, orF, andV, orV, notV, chF, chT, bodyEnds, startE, optF, idxF, slcF, intF, noF, newL, tyD, isiT, isiB, lenB, absB, intB, gcdB, tupB, lstB, ltG, leG, gtG, geG, isG, isnG, o2I, isO, getS, addF, subF, mulF, eqG_ii, neG_ii, neG_bb, fdivG, modG, powG, raiseS, wipeE, itsF]; exact h
          · rw [List.all_eq_true] at ha
            obtain ⟨p, q, c, rfl, _⟩ := term_form (ha d hd)
            simp [seqS, setS, retS, retN, exprS, nilS, ifS, parS, asgS, bindT, bindTs, bindF, callC, varF, retF, consF, nilF, iteV, truF, truD, notF, andF, orF, andV, orV, notV, chF, chT, bodyEnds, startE, optF, idxF, slcF, intF, noF, newL, tyD, isiT, isiB, lenB, absB, intB, gcdB, tupB, lstB, ltG, leG, gtG, geG, isG, isnG, o2I, isO, getS, addF, subF, mulF, eqG_ii, neG_ii, neG_bb, fdivG, modG, powG, raiseS, wipeE, L2.atI, L2.ixN]
            exact h
          · have ef : xs.filter (fun _ => true) = xs := by simp
            rw [ef]
            simp [seqS, setS, retS, retN, exprS, nilS, ifS, parS, asgS, bindT, bindTs, bindF, callC, varF, retF, consF, nilF, iteV, truF, truD, notF, andF, orF, andV, orV, notV, chF, chT, bodyEnds, startE, optF, idxF, slcF, intF, noF, newL, tyD, isiT, isiB, lenB, absB, intB, gcdB, tupB, lstB, ltG, leG, gtG, geG, isG, isnG, o2I, isO, getS, addF, subF, mulF, eqG_ii, neG_ii, neG_bb, fdivG, modG, powG, raiseS, wipeE]
            exact ⟨xs.map powD, rfl, by simp; omega, pow_pair ha, hq⟩
        · have e2 : (xs.map termB).all id = false := bfalse fun z => ha (by simpa using z)
          have e : surfB (.tup xs) = false := by simp only [surfB, ha, Bool.false_and, Bool.and_false]
          rw [e] at hq
          simp only [e2]
          simp [seqS, setS, retS, retN, exprS, nilS, ifS, parS, asgS, bindT, bindTs, bindF, callC, varF, retF, consF, nilF, iteV, truF, truD, notF, andF, orF, andV, orV, notV, chF, chT, bodyEnds, startE, optF, idxF, slcF, intF, noF, newL, tyD, isiT, isiB, lenB, absB, intB, gcdB, tupB, lstB, ltG, leG, gtG, geG, isG, isnG, o2I, isO, getS, addF, subF, mulF, eqG_ii, neG_ii, neG_bb, fdivG, modG, powG, raiseS, wipeE]
          exact hq
    · have e9 : decide ((xs.length : Int) ≤ 15) = false := by simp; omega
      simp [surfB, h15] at hq
      simp [e9, seqS, setS, retS, retN, exprS, nilS, ifS, parS, asgS, bindT, bindTs, bindF, callC, varF, retF, consF, nilF, iteV, truF, truD, notF, andF, orF, andV, orV, notV, chF, chT, bodyEnds, startE, optF, idxF, slcF, intF, noF, newL, tyD, isiT, isiB, lenB, absB, intB, gcdB, tupB, lstB, ltG, leG, gtG, geG, isG, isnG, o2I, isO, getS, addF, subF, mulF, eqG_ii, neG_ii, neG_bb, fdivG, modG, powG, raiseS, wipeE]
      exact hq
  | _ => simp [surfB] at hq; simp [seqS, setS, retS, retN, exprS, nilS, ifS, parS, asgS, bindT, bindTs, bindF, callC, varF, retF, consF, nilF, iteV, truF, truD, notF, andF, orF, andV, orV, notV, chF, chT, bodyEnds, startE, optF, idxF, slcF, intF, noF, newL, tyD, isiT, isiB, lenB, absB, intB, gcdB, tupB, lstB, ltG, leG, gtG, geG, isG, isnG, o2I, isO, getS, addF, subF, mulF, eqG_ii, neG_ii, neG_bb, fdivG, modG, powG, raiseS, wipeE]; exact hq
/-- a comprehension that rolls -/
theorem compL_inv {t : Tg} {fe : F} {chk : Store → Prop} {τ : Dx.Env} (I : Store → Prop) (P : D → Prop) (hc : ∀ S, I S → chk S) : ∀ (ds acc : List D) (S : Store) (Q : List D → Store → Prop), I S → (∀ a ∈ acc, P a) → acc.length + ds.length ≤ sizeLine →
    (∀ d ∈ ds, ∀ S, I S → ∃ τ', bindT t d τ = some τ' ∧ ∀ K : D → Store → Prop, (∀ x S', P x → I S' → K x S') → fe τ' S K noX) →
    (∀ acc' S', I S' → (∀ a ∈ acc', P a) → acc'.length = acc.length + ds.length → Q acc' S') → compL t (retF true) fe chk τ ds acc S Q
  | [], acc, S, Q, h0, ha, hl, h, hq => ⟨hc S h0, hq acc S h0 ha (by simp)⟩
  | d :: ds, acc, S, Q, h0, ha, hl, h, hq => by
    obtain ⟨τ', e, k⟩ := h d (by simp) S h0
    refine ⟨hc S h0, ?_⟩
    rw [e]
    show fe τ' S _ noX
    refine k _ fun x S' px hi => ⟨by simp only [List.length_cons] at hl; omega, ?_⟩
    refine compL_inv I P hc ds (acc ++ [x]) S' Q hi (fun a hm => ?_) (by simp only [List.length_cons] at hl; simp; omega) (fun d hd => h d (by simp [hd])) (fun acc' S'' h1 h2 h3 => hq acc' S'' h1 h2 (by simp only [List.length_append, List.length_cons, List.length_nil] at h3 ⊢; omega))
    rcases List.mem_append.mp hm with hm | hm
    · exact ha a hm
    · rw [List.mem_singleton.mp hm]; exact px
theorem big4000 {k : Int} (h : k ≤ 100000) : k < 2 ^ 4000 := by
  have : (100000 : Int) < 2 ^ 4000 := by decide
  omega
def cLnL : Ct := fun ds S Q _ => ∃ n, ds = [.obj n, .int 6] ∧ Cup n S ∧ ∀ v S', lineB v = true → okD 9 v = true → depD v ≤ 1 → CupR n S S' → Q v S'
theorem line_int {x : Int} {xs : List D} (hx : x ≠ 0) (h : ∀ d ∈ xs, ∃ i : Int, d = .int i ∧ -5 ≤ i ∧ i ≤ 5) (h1 : -5 ≤ x ∧ x ≤ 5) (hl : xs.length ≤ 6) : lineB (.tup (xs ++ [.int x])) = true ∧ okD 9 (.tup (xs ++ [.int x])) = true ∧ depD (.tup (xs ++ [.int x])) ≤ 1 := by
  have all : ∀ d ∈ xs ++ [.int x], ∃ i : Int, d = .int i ∧ -5 ≤ i ∧ i ≤ 5 := fun d hd => by
    rcases List.mem_append.mp hd with hd | hd
    · exact h d hd
    · rw [List.mem_singleton.mp hd]; exact ⟨x, rfl, h1⟩
  refine ⟨?_, okD_tup.mpr ⟨by simp; omega, fun d hd => ?_⟩, depD_tup.mpr fun d hd => ?_⟩
  · have e1 : (xs ++ [D.int x]).all (fun d => wholeB d (-1000000) 1000000) = true := by
      rw [List.all_eq_true]
      intro d hd
      obtain ⟨i, rfl, h1, h2⟩ := all d hd
      simp [wholeB]
      omega
    have e2 : decide ((xs ++ [D.int x]).length ≤ 9) = true := by simp; omega
    obtain ⟨d, d1, d2, d3⟩ := last_at (xs := xs ++ [.int x]) (by simp)
    have d4 : L2.atI (xs ++ [D.int x]) (-1) = some (.int x) := by
      have e5 : (-1 + ((xs.length : Int) + 1)).toNat = xs.length := by omega
      unfold L2.atI L2.ixN
      simp
      rw [if_pos (by omega), e5]
      simp
    rw [d4] at d1
    cases d1
    simp only [lineB, e1, e2, d3 x rfl, Bool.true_and]
    simpa using hx
  · obtain ⟨i, rfl, h1, h2⟩ := all d hd
    have : (5 : Nat) < 2 ^ 4000 := by decide
    exact okD_int.mpr (by omega)
  · obtain ⟨i, rfl, _⟩ := all d hd
    simp [depD]
/-! ### a drawn surface -/
def DI (kvs : List (List Key × D)) : Prop := (∀ p ∈ kvs, ∃ i j v : Int, p = ([.inl i, .inl j], .int v) ∧ 0 ≤ i ∧ 0 ≤ j ∧ i + j ≤ 4 ∧ 1 ≤ v ∧ v ≤ 9) ∧ (kvs.map (·.1)).Nodup
theorem put_len {kvs : List (List Key × D)} {k : List Key} {d : D} : (putD kvs k d).length ≤ kvs.length + 1 := by
  unfold putD
  split <;> simp
theorem put_DI {kvs : List (List Key × D)} {i j v : Int} (h : DI kvs) (h1 : 0 ≤ i) (h2 : 0 ≤ j) (h3 : i + j ≤ 4) (h4 : 1 ≤ v) (h5 : v ≤ 9) : DI (putD kvs [.inl i, .inl j] (.int v)) := by
  obtain ⟨a, b⟩ := h
  unfold putD
  split
  · refine ⟨fun p hp => ?_, ?_⟩
    · obtain ⟨q, hq, rfl⟩ := List.mem_map.mp hp
      obtain ⟨i', j', v', rfl, c⟩ := a q hq
      by_cases e : ([.inl i', .inl j'] : List Key) = [.inl i, .inl j]
      · simp only [e, if_true]
        exact ⟨i, j, v, rfl, h1, h2, h3, h4, h5⟩
      · simp only [e, if_false]
        exact ⟨i', j', v', rfl, c⟩
    · have : (kvs.map fun kv => if kv.1 = ([.inl i, .inl j] : List Key) then (kv.1, D.int v) else kv).map (·.1) = kvs.map (·.1) := by
        rw [List.map_map]
        apply List.map_congr_left
        intro kv _
        simp only [Function.comp]
        split <;> rfl
      rw [this]
      exact b
  · rename_i hno
    refine ⟨fun p hp => ?_, ?_⟩
    · rcases List.mem_append.mp hp with hp | hp
      · exact a p hp
      · rw [List.mem_singleton.mp hp]
        exact ⟨i, j, v, rfl, h1, h2, h3, h4, h5⟩
    · rw [List.map_append, List.nodup_append]
      refine ⟨b, by simp, fun x hx y hy e => hno ?_⟩
      simp only [List.map_cons, List.map_nil, List.mem_singleton] at hy
      obtain ⟨q, hq, rfl⟩ := List.mem_map.mp hx
      rw [List.any_eq_true]
      exact ⟨q, hq, by simp [e, hy]⟩
theorem val_DI : ∀ {kvs : List (List Key × D)} {k : List Key}, (∀ p ∈ kvs, ∃ i j v : Int, p = ([.inl i, .inl j], .int v) ∧ 0 ≤ i ∧ 0 ≤ j ∧ i + j ≤ 4 ∧ 1 ≤ v ∧ v ≤ 9) → k ∈ kvs.map (·.1) → ∃ v : Int, valD kvs k = some (.int v) ∧ 1 ≤ v ∧ v ≤ 9
  | [], k, _, h => absurd h (by simp)
  | p :: kvs, k, h, hk => by
    obtain ⟨i, j, v, rfl, _, _, _, v1, v2⟩ := h p (by simp)
    by_cases e : ([.inl i, .inl j] : List Key) = k
    · exact ⟨v, by simp [valD, e], v1, v2⟩
    · obtain ⟨v', h1, h2⟩ := val_DI (kvs := kvs) (fun q hq => h q (by simp [hq])) (by
        simp only [List.map_cons, List.mem_cons] at hk
        rcases hk with hk | hk
        · exact absurd hk.symm e
        · exact hk)
      refine ⟨v', ?_, h2⟩
      unfold valD at h1 ⊢
      simp only [List.find?_cons, e, decide_false]
      exact h1
def valOf (kvs : List (List Key × D)) (d : D) : D := match d with
  | .tup ks => (match Dx.keyOf ks with
    | some k => (valD kvs k).getD .non
    | none => .non)
  | _ => .non
theorem keyT_pair (i j : Int) : keyT [.inl i, .inl j] = pairD i j := rfl
theorem DI.key {kvs : List (List Key × D)} (h : DI kvs) {d : D} (hd : d ∈ kvs.map fun p => keyT p.1) : ∃ i j v : Int, d = pairD i j ∧ 0 ≤ i ∧ 0 ≤ j ∧ i + j ≤ 4 ∧ 1 ≤ v ∧ v ≤ 9 ∧ valD kvs [.inl i, .inl j] = some (.int v) := by
  obtain ⟨p, hp, rfl⟩ := List.mem_map.mp hd
  obtain ⟨i, j, v, rfl, h1, h2, h3, _⟩ := h.1 p hp
  obtain ⟨v', e, v1, v2⟩ := val_DI h.1 (k := [.inl i, .inl j]) (List.mem_map.mpr ⟨_, hp, rfl⟩)
  exact ⟨i, j, v', rfl, h1, h2, h3, v1, v2, e⟩
theorem pair_same {a b : D} (h : isPair a) (h' : isPair b) : sameD a b = true := by
  obtain ⟨x, y, rfl⟩ := h
  obtain ⟨z, w, rfl⟩ := h'
  rfl
theorem fit_pairs {ds : List D} (h : ∀ d ∈ ds, isPair d) : fitS ds = true := by
  unfold fitS
  rw [List.all_eq_true]
  intro x hx
  have hp := h x hx
  have e2 : (flatD x).isEmpty = false := by obtain ⟨a, b, rfl⟩ := hp; rfl
  have e3 : (ds.all fun y => sameD x y) = true := by
    rw [List.all_eq_true]
    exact fun y hy => pair_same hp (h y hy)
  rw [pair_cmp hp, e2, e3]
  rfl
theorem pair_tot {a b : D} (h : isPair a) (h' : isPair b) (h1 : ltD b a = false) (h2 : a ≠ b) : ltD a b = true := by
  obtain ⟨x, y, rfl⟩ := h
  obtain ⟨z, w, rfl⟩ := h'
  have h3 : ¬ (z < x ∨ (z = x ∧ w < y)) := fun q => by rw [pair_lt_iff.mpr q] at h1; cases h1
  have h4 : ¬ (x = z ∧ y = w) := fun q => h2 (pair_inj.mpr q)
  exact pair_lt_iff.mpr (by omega)
theorem keyT_inj {k k' : List Key} (h : keyT k = keyT k') : k = k' := by
  unfold keyT at h
  injection h with h
  have h2 := congrArg Dx.keyOf h
  rw [keyOf_map, keyOf_map] at h2
  exact Option.some.inj h2
/-- the sorted keys with their values are a surface -/
theorem keys_surf {kvs : List (List Key × D)} (h : DI kvs) (hl : kvs.length ≤ 4) {es : List D} (p : es.Perm (kvs.map fun p => keyT p.1)) (pw : es.Pairwise fun x y => ltD y x = false) :
    surfB (.tup (es.map fun d => .tup [d, valOf kvs d])) = true ∧ okD 15 (.tup (es.map fun d => .tup [d, valOf kvs d])) = true ∧ depD (.tup (es.map fun d => .tup [d, valOf kvs d])) ≤ 3 := by
  have hm : ∀ d ∈ es, ∃ i j v : Int, d = pairD i j ∧ 0 ≤ i ∧ 0 ≤ j ∧ i + j ≤ 4 ∧ 1 ≤ v ∧ v ≤ 9 ∧ valOf kvs d = .int v := fun d hd => by
    obtain ⟨i, j, v, rfl, a, b, c, d1, d2, e⟩ := h.key (p.mem_iff.mp hd)
    refine ⟨i, j, v, rfl, a, b, c, d1, d2, ?_⟩
    have : Dx.keyOf [.int i, .int j] = some [.inl i, .inl j] := rfl
    simp only [valOf, Dx.pairD, this, e, Option.getD_some]
  have hp : ∀ d ∈ es, isPair d := fun d hd => by
    obtain ⟨i, j, v, rfl, _⟩ := hm d hd
    exact ⟨i, j, rfl⟩
  have hn : es.Nodup := by
    refine p.nodup_iff.mpr ?_
    have e : (kvs.map fun p => keyT p.1) = (kvs.map (·.1)).map keyT := by rw [List.map_map]; rfl
    rw [e]
    exact List.pairwise_map.mpr (h.2.imp fun hne e => hne (keyT_inj e))
  have hlen : es.length ≤ 4 := by rw [p.length_eq, List.length_map]; exact hl
  have asc : es.Pairwise fun x y => ltD x y = true := List.Pairwise.imp_of_mem (fun {a b} ha hb hab => pair_tot (hp a ha) (hp b hb) hab.1 hab.2) (pw.and hn)
  have e1 : (es.map fun d => D.tup [d, valOf kvs d]).map powD = es := by
    rw [List.map_map]
    have : (powD ∘ fun d => D.tup [d, valOf kvs d]) = id := funext fun d => rfl
    rw [this, List.map_id]
  refine ⟨?_, okD_tup.mpr ⟨by simp; omega, fun t ht => ?_⟩, depD_tup.mpr fun t ht => ?_⟩
  · have e2 : (es.map fun d => D.tup [d, valOf kvs d]).all termB = true := by
      rw [List.all_eq_true]
      intro t ht
      obtain ⟨d, hd, rfl⟩ := List.mem_map.mp ht
      obtain ⟨i, j, v, rfl, a, b, c, d1, d2, e⟩ := hm d hd
      rw [e]
      simp [termB, Dx.pairD]
      omega
    have e3 : decide ((es.map fun d => D.tup [d, valOf kvs d]).length ≤ 15) = true := by simp; omega
    simp only [surfB, e1, e2, e3, pw_asc asc, Bool.true_and]
  · obtain ⟨d, hd, rfl⟩ := List.mem_map.mp ht
    obtain ⟨i, j, v, rfl, a, b, c, d1, d2, e⟩ := hm d hd
    rw [e]
    have : (9 : Nat) < 2 ^ 4000 := by decide
    refine okD_tup.mpr ⟨by simp, fun z hz => ?_⟩
    simp only [List.mem_cons, List.not_mem_nil, or_false] at hz
    rcases hz with rfl | rfl
    · refine okD_tup.mpr ⟨by simp, fun z hz => ?_⟩
      simp only [List.mem_cons, List.not_mem_nil, or_false] at hz
      rcases hz with rfl | rfl
      · exact okD_int.mpr (by omega)
      · exact okD_int.mpr (by omega)
    · exact okD_int.mpr (by omega)
  · obtain ⟨d, hd, rfl⟩ := List.mem_map.mp ht
    obtain ⟨i, j, v, rfl, a, b, c, d1, d2, e⟩ := hm d hd
    rw [e]
    simp [depD, depDs, Dx.pairD]

def cSfL : Ct := fun ds S Q _ => ∃ n, ds = [.obj n] ∧ Cup n S ∧ ∀ v S', surfB v = true → okD 15 v = true → depD v ≤ 3 → Cup n S' → Q v S'
abbrev sfE (n m : Nat) (t w : Option D) : Dx.Env := [some (.obj n), some (.obj m), t, w]
end LawX

set_option Elab.async false
set_option linter.all false
set_option maxRecDepth 100000
set_option maxHeartbeats 0
set_option exponentiation.threshold 5000
namespace LawX
open PySem PySem.Spec PyProof.Rows L2 Dx
/-! ### fractions as rationals -/
def fr (a b : Int) : D := .tup [.int a, .int b]
def qf (a b : Int) : Rat := mkRat a b.toNat
def ratD (q : Rat) : D := fr q.num q.den
theorem qf_rat (q : Rat) : qf q.num q.den = q := by
  unfold qf
  rw [Int.toNat_natCast]
  exact Rat.mkRat_self q
theorem mk_num {a : Int} {n : Nat} (h : n ≠ 0) : (mkRat a n).num = a / (Nat.gcd a.natAbs n : Nat) ∧ (mkRat a n).den = n / Nat.gcd a.natAbs n := by
  unfold mkRat
  rw [dif_neg h, Rat.normalize_eq]
  exact ⟨rfl, rfl⟩
theorem madeD_rat {a b : Int} (h : 0 < b) : madeD a b = ratD (qf a b) := by
  obtain ⟨n, rfl⟩ : ∃ n : Nat, b = n := ⟨b.toNat, by omega⟩
  have hn : n ≠ 0 := by omega
  obtain ⟨h1, h2⟩ := mk_num (a := a) hn
  unfold madeD ratD fr qf
  rw [Int.toNat_natCast, h1, h2, Int.natAbs_natCast]
  rw [Int.fdiv_eq_ediv_of_nonneg _ (by omega), Int.fdiv_eq_ediv_of_nonneg _ (by omega)]
  simp
/-- of a size -/
def Fz (k : Nat) (a b : Int) : Prop := a.natAbs < 2 ^ k ∧ 0 < b ∧ b < 2 ^ k
def Qz (k : Nat) (q : Rat) : Prop := Fz k q.num q.den
theorem pow_mono {j k : Nat} (h : j ≤ k) : (2 : Nat) ^ j ≤ 2 ^ k := Nat.pow_le_pow_right (by decide) h
theorem powI_mono {j k : Nat} (h : j ≤ k) : (2 : Int) ^ j ≤ 2 ^ k := by
  have e1 : ((2 ^ j : Nat) : Int) = 2 ^ j := by simp
  have e2 : ((2 ^ k : Nat) : Int) = 2 ^ k := by simp
  have := pow_mono h
  omega
theorem Fz.mono {j k : Nat} {a b : Int} (h : j ≤ k) (z : Fz j a b) : Fz k a b := ⟨Nat.lt_of_lt_of_le z.1 (pow_mono h), z.2.1, Int.lt_of_lt_of_le z.2.2 (powI_mono h)⟩
theorem mulN {j k a b : Nat} (h : a < 2 ^ j) (h' : b < 2 ^ k) : a * b < 2 ^ (j + k) := by
  rw [Nat.pow_add]
  exact Nat.mul_lt_mul'' h h'
theorem Fz.mul {j k : Nat} {a b c d : Int} (z : Fz j a b) (y : Fz k c d) : Fz (j + k) (a * c) (b * d) := by
  obtain ⟨z1, z2, z3⟩ := z
  obtain ⟨y1, y2, y3⟩ := y
  refine ⟨by rw [Int.natAbs_mul]; exact mulN z1 y1, Int.mul_pos z2 y2, ?_⟩
  obtain ⟨n, rfl⟩ : ∃ n : Nat, b = n := ⟨b.toNat, by omega⟩
  obtain ⟨m, rfl⟩ : ∃ n : Nat, d = n := ⟨d.toNat, by omega⟩
  have e1 : ((2 ^ j : Nat) : Int) = 2 ^ j := by simp
  have e2 : ((2 ^ k : Nat) : Int) = 2 ^ k := by simp
  have e3 : ((2 ^ (j + k) : Nat) : Int) = 2 ^ (j + k) := by simp
  have := mulN (j := j) (k := k) (a := n) (b := m) (by omega) (by omega)
  rw [← e3]
  exact_mod_cast this
theorem Fz.add {j k : Nat} {a b c d : Int} (z : Fz j a b) (y : Fz k c d) : Fz (j + k + 1) (a * d + c * b) (b * d) := by
  have m := (z.mul y)
  obtain ⟨z1, z2, z3⟩ := z
  obtain ⟨y1, y2, y3⟩ := y
  refine ⟨?_, m.2.1, Int.lt_of_lt_of_le m.2.2 (powI_mono (by omega))⟩
  have h1 : b.natAbs < 2 ^ j := by
    have e1 : ((2 ^ j : Nat) : Int) = 2 ^ j := by simp
    omega
  have h2 : d.natAbs < 2 ^ k := by
    have e1 : ((2 ^ k : Nat) : Int) = 2 ^ k := by simp
    omega
  have h3 : (a * d).natAbs < 2 ^ (j + k) := by rw [Int.natAbs_mul]; exact mulN z1 h2
  have h4 : (c * b).natAbs < 2 ^ (j + k) := by rw [Int.natAbs_mul, Nat.add_comm]; exact mulN y1 h1
  have := Int.natAbs_add_le (a * d) (c * b)
  rw [Nat.pow_succ]
  omega
theorem Fz.q {k : Nat} {a b : Int} (z : Fz k a b) : Qz k (qf a b) := by
  obtain ⟨z1, z2, z3⟩ := z
  obtain ⟨n, rfl⟩ : ∃ n : Nat, b = n := ⟨b.toNat, by omega⟩
  have hn : n ≠ 0 := by omega
  obtain ⟨h1, h2⟩ := mk_num (a := a) hn
  have hg : 0 < Nat.gcd a.natAbs n := Nat.gcd_pos_of_pos_right _ (by omega)
  unfold Qz qf
  rw [Int.toNat_natCast]
  refine ⟨?_, by have := (mkRat a n).den_pos; omega, ?_⟩
  · rw [h1, Int.natAbs_ediv_of_dvd (by exact Int.ofNat_dvd_left.mpr (Nat.gcd_dvd_left _ _)), Int.natAbs_natCast]
    exact Nat.lt_of_le_of_lt (Nat.div_le_self _ _) z1
  · rw [h2]
    have := Nat.div_le_self n (Nat.gcd a.natAbs n)
    omega
theorem qf_mul {a b c d : Int} (h : 0 < b) (h' : 0 < d) : qf (a * c) (b * d) = qf a b * qf c d := by
  unfold qf
  rw [Rat.mkRat_mul_mkRat, Int.toNat_mul (by omega) (by omega)]
theorem qf_add {a b c d : Int} (h : 0 < b) (h' : 0 < d) : qf (a * d + c * b) (b * d) = qf a b + qf c d := by
  unfold qf
  rw [Rat.mkRat_add_mkRat _ _ (by omega) (by omega), Int.toNat_mul (by omega) (by omega), Int.toNat_of_nonneg (by omega), Int.toNat_of_nonneg (by omega)]
theorem Qz.mono {j k : Nat} {q : Rat} (h : j ≤ k) (z : Qz j q) : Qz k q := Fz.mono h z
theorem Qz.mul {j k : Nat} {p q : Rat} (z : Qz j p) (y : Qz k q) : Qz (j + k) (p * q) := by
  have := (Fz.mul z y).q
  rw [qf_mul z.2.1 y.2.1, qf_rat, qf_rat] at this
  exact this
theorem Qz.add {j k : Nat} {p q : Rat} (z : Qz j p) (y : Qz k q) : Qz (j + k + 1) (p + q) := by
  have := (Fz.add z y).q
  rw [qf_add z.2.1 y.2.1, qf_rat, qf_rat] at this
  exact this
theorem fz_mul {k : Nat} {a b : Int} (hk : k ≤ 3000) (h1 : a.natAbs < 2 ^ k) (h2 : b.natAbs < 2 ^ k) : cMul a b = true := cmul_ok (Nat.lt_of_lt_of_le h1 (pow_mono (by omega))) (Nat.lt_of_lt_of_le h2 (pow_mono (by omega)))
theorem Fz.bn {k : Nat} {a b : Int} (z : Fz k a b) : b.natAbs < 2 ^ k := by
  have e1 : ((2 ^ k : Nat) : Int) = 2 ^ k := by simp
  have := z.2
  omega
def cTimes : Ct := fun ds S Q _ => ∃ k a b c d, ds = [fr a b, fr c d] ∧ k ≤ 1500 ∧ Fz k a b ∧ Fz k c d ∧ Q (ratD (qf a b * qf c d)) S
def cPlus : Ct := fun ds S Q _ => ∃ k a b c d, ds = [fr a b, fr c d] ∧ k ≤ 1500 ∧ Fz k a b ∧ Fz k c d ∧ Q (ratD (qf a b + qf c d)) S
theorem times_ok (ds : List D) (S : Store) (Q : D → Store → Prop) (E : QX) (h : cTimes ds S Q E) : fstimes cMade (bodyEnds Q E) (startE Ntimes ds) S := by
  obtain ⟨k, a, b, c, d, rfl, hk, z, y, hq⟩ := h
  have m := z.mul y
  have h1 := fz_mul (by omega) z.1 y.1
  have h2 := fz_mul (by omega) z.bn y.bn
  simp [fstimes, seqS, setS, retS, retN, exprS, nilS, ifS, parS, asgS, bindT, bindTs, bindF, callC, varF, retF, consF, nilF, iteV, truF, truD, notF, andF, orF, andV, orV, notV, chF, chT, bodyEnds, startE, optF, idxF, slcF, intF, noF, newL, tyD, isiT, isiB, lenB, absB, intB, gcdB, tupB, lstB, ltG, leG, gtG, geG, isG, isnG, o2I, isO, getS, addF, subF, mulF, eqG_ii, neG_ii, neG_bb, fdivG, modG, powG, raiseS, wipeE, Ntimes, fr, L2.atI, L2.ixN, h1, h2]
  refine ⟨_, _, rfl, m.2.1, Int.lt_of_lt_of_le m.2.2 (powI_mono (by omega)), ?_⟩
  rw [madeD_rat m.2.1, qf_mul z.2.1 y.2.1]
  exact hq
theorem plus_ok (ds : List D) (S : Store) (Q : D → Store → Prop) (E : QX) (h : cPlus ds S Q E) : fsplus cMade (bodyEnds Q E) (startE Nplus ds) S := by
  obtain ⟨k, a, b, c, d, rfl, hk, z, y, hq⟩ := h
  have m := z.add y
  have h1 := fz_mul (by omega) z.1 y.bn
  have h2 := fz_mul (by omega) y.1 z.bn
  have h3 := fz_mul (by omega) z.bn y.bn
  simp [fsplus, seqS, setS, retS, retN, exprS, nilS, ifS, parS, asgS, bindT, bindTs, bindF, callC, varF, retF, consF, nilF, iteV, truF, truD, notF, andF, orF, andV, orV, notV, chF, chT, bodyEnds, startE, optF, idxF, slcF, intF, noF, newL, tyD, isiT, isiB, lenB, absB, intB, gcdB, tupB, lstB, ltG, leG, gtG, geG, isG, isnG, o2I, isO, getS, addF, subF, mulF, eqG_ii, neG_ii, neG_bb, fdivG, modG, powG, raiseS, wipeE, Nplus, fr, L2.atI, L2.ixN, h1, h2, h3]
  refine ⟨_, _, rfl, m.2.1, Int.lt_of_lt_of_le m.2.2 (powI_mono (by omega)), ?_⟩
  rw [madeD_rat m.2.1, qf_add z.2.1 y.2.1]
  exact hq
theorem ltimes_ok (ds : List D) (S : Store) (Q : D → Store → Prop) (E : QX) (h : cTimes ds S Q E) : fs_law_times cMade (bodyEnds Q E) (startE N_law_times ds) S := by
  obtain ⟨k, a, b, c, d, rfl, hk, z, y, hq⟩ := h
  have m := z.mul y
  have h1 := fz_mul (by omega) z.1 y.1
  have h2 := fz_mul (by omega) z.bn y.bn
  simp [fs_law_times, seqS, setS, retS, retN, exprS, nilS, ifS, parS, asgS, bindT, bindTs, bindF, callC, varF, retF, consF, nilF, iteV, truF, truD, notF, andF, orF, andV, orV, notV, chF, chT, bodyEnds, startE, optF, idxF, slcF, intF, noF, newL, tyD, isiT, isiB, lenB, absB, intB, gcdB, tupB, lstB, ltG, leG, gtG, geG, isG, isnG, o2I, isO, getS, addF, subF, mulF, eqG_ii, neG_ii, neG_bb, fdivG, modG, powG, raiseS, wipeE, N_law_times, fr, L2.atI, L2.ixN, h1, h2]
  refine ⟨_, _, rfl, m.2.1, Int.lt_of_lt_of_le m.2.2 (powI_mono (by omega)), ?_⟩
  rw [madeD_rat m.2.1, qf_mul z.2.1 y.2.1]
  exact hq
theorem lplus_ok (ds : List D) (S : Store) (Q : D → Store → Prop) (E : QX) (h : cPlus ds S Q E) : fs_law_plus cMade (bodyEnds Q E) (startE N_law_plus ds) S := by
  obtain ⟨k, a, b, c, d, rfl, hk, z, y, hq⟩ := h
  have m := z.add y
  have h1 := fz_mul (by omega) z.1 y.bn
  have h2 := fz_mul (by omega) y.1 z.bn
  have h3 := fz_mul (by omega) z.bn y.bn
  simp [fs_law_plus, seqS, setS, retS, retN, exprS, nilS, ifS, parS, asgS, bindT, bindTs, bindF, callC, varF, retF, consF, nilF, iteV, truF, truD, notF, andF, orF, andV, orV, notV, chF, chT, bodyEnds, startE, optF, idxF, slcF, intF, noF, newL, tyD, isiT, isiB, lenB, absB, intB, gcdB, tupB, lstB, ltG, leG, gtG, geG, isG, isnG, o2I, isO, getS, addF, subF, mulF, eqG_ii, neG_ii, neG_bb, fdivG, modG, powG, raiseS, wipeE, N_law_plus, fr, L2.atI, L2.ixN, h1, h2, h3]
  refine ⟨_, _, rfl, m.2.1, Int.lt_of_lt_of_le m.2.2 (powI_mono (by omega)), ?_⟩
  rw [madeD_rat m.2.1, qf_add z.2.1 y.2.1]
  exact hq
end LawX

set_option Elab.async false
set_option linter.all false
set_option maxRecDepth 100000
set_option maxHeartbeats 0
set_option exponentiation.threshold 5000
namespace LawX
open PySem PySem.Spec PyProof.Rows L2 Dx
/-! ### surfaces as lists of terms -/
abbrev Tm := Nat × Nat × Int
def tmD (t : Tm) : D := .tup [.tup [.int t.1, .int t.2.1], .int t.2.2]
def tmOf : D → Tm
  | .tup [.tup [.int i, .int j], .int c] => (i.toNat, j.toNat, c)
  | _ => (0, 0, 0)
def tsOf : D → List Tm
  | .tup xs => xs.map tmOf
  | _ => []
theorem tmOf_tm (t : Tm) : tmOf (tmD t) = t := by simp [tmOf, tmD]
theorem tsOf_ts (ts : List Tm) : tsOf (.tup (ts.map tmD)) = ts := by
  simp only [tsOf, List.map_map]
  have : (tmOf ∘ tmD) = id := funext tmOf_tm
  rw [this, List.map_id]
theorem tm_inj {t u : Tm} (h : tmD t = tmD u) : t = u := by rw [← tmOf_tm t, ← tmOf_tm u, h]
def TmOk (t : Tm) : Prop := t.1 + t.2.1 ≤ 4 ∧ t.2.2.natAbs ≤ 1000000 ∧ t.2.2 ≠ 0
theorem surf_ts {v : D} (h : surfB v = true) : ∃ ts : List Tm, v = .tup (ts.map tmD) ∧ ts.length ≤ 15 ∧ (∀ t ∈ ts, TmOk t) ∧ ascB ((ts.map tmD).map powD) = true := by
  cases v with
  | tup xs =>
    simp only [surfB, Bool.and_eq_true, decide_eq_true_eq] at h
    obtain ⟨h1, h2, h3⟩ := h
    have key : ∀ ys : List D, ys.all termB = true → ∃ ts : List Tm, ys = ts.map tmD ∧ ∀ t ∈ ts, TmOk t := by
      intro ys
      induction ys with
      | nil => intro _; exact ⟨[], rfl, fun t h => absurd h (by simp)⟩
      | cons y ys ih =>
        intro h
        simp only [List.all_cons, Bool.and_eq_true] at h
        obtain ⟨ts, e, k⟩ := ih h.2
        obtain ⟨p, q, c, rfl, a1, a2, a3, a4, a5, a6, a7, a8⟩ := term_form h.1
        refine ⟨(p.toNat, q.toNat, c) :: ts, ?_, fun t ht => ?_⟩
        · simp only [List.map_cons, e, tmD, Dx.pairD]
          rw [Int.toNat_of_nonneg a1, Int.toNat_of_nonneg a3]
        · rcases List.mem_cons.mp ht with rfl | ht
          · exact ⟨by simp only; omega, by simp only; omega, a8⟩
          · exact k t ht
    obtain ⟨ts, rfl, k⟩ := key xs h2
    exact ⟨ts, rfl, by simpa using h1, k, h3⟩
  | _ => simp [surfB] at h
theorem ts_surf {ts : List Tm} (h1 : ts.length ≤ 15) (h2 : ∀ t ∈ ts, TmOk t) (h3 : ascB ((ts.map tmD).map powD) = true) : surfB (.tup (ts.map tmD)) = true := by
  have e : (ts.map tmD).all termB = true := by
    rw [List.all_eq_true]
    intro d hd
    obtain ⟨t, ht, rfl⟩ := List.mem_map.mp hd
    obtain ⟨a, b, c⟩ := h2 t ht
    simp [tmD, termB, c]
    omega
  simp only [surfB, e, h3, List.length_map, h1, decide_true, Bool.true_and]
def cNeedS : Ct := fun ds S Q E => ∃ v l, ds = [v] ∧ okD l v = true ∧ l ≤ 10000 ∧ (surfB v = true → Q .non S) ∧ (surfB v = false → E ⟨"InvalidSurface", []⟩ S)
theorem needS_ok (ds : List D) (S : Store) (Q : D → Store → Prop) (E : QX) (h : cNeedS ds S Q E) : fsneed_surface cSurf (bodyEnds Q E) (startE Nneed_surface ds) S := by
  obtain ⟨v, l, rfl, hv, hl, h1, h2⟩ := h
  simp [fsneed_surface, seqS, setS, retS, retN, exprS, nilS, ifS, parS, asgS, bindT, bindTs, bindF, callC, varF, retF, consF, nilF, iteV, truF, truD, notF, andF, orF, andV, orV, notV, chF, chT, bodyEnds, startE, optF, idxF, slcF, intF, noF, newL, tyD, isiT, isiB, lenB, absB, intB, gcdB, tupB, lstB, ltG, leG, gtG, geG, isG, isnG, o2I, isO, getS, addF, subF, mulF, eqG_ii, neG_ii, neG_bb, fdivG, modG, powG, raiseS, wipeE, Nneed_surface]
  refine ⟨v, l, rfl, hv, hl, ?_⟩
  cases hs : surfB v with
  | true => simp [seqS, setS, retS, retN, exprS, nilS, ifS, parS, asgS, bindT, bindTs, bindF, callC, varF, retF, consF, nilF, iteV, truF, truD, notF, andF, orF, andV, orV, notV, chF, chT, bodyEnds, startE, optF, idxF, slcF, intF, noF, newL, tyD, isiT, isiB, lenB, absB, intB, gcdB, tupB, lstB, ltG, leG, gtG, geG, isG, isnG, o2I, isO, getS, addF, subF, mulF, eqG_ii, neG_ii, neG_bb, fdivG, modG, powG, raiseS, wipeE]; exact h1 hs
  | false => simp [seqS, setS, retS, retN, exprS, nilS, ifS, parS, asgS, bindT, bindTs, bindF, callC, varF, retF, consF, nilF, iteV, truF, truD, notF, andF, orF, andV, orV, notV, chF, chT, bodyEnds, startE, optF, idxF, slcF, intF, noF, newL, tyD, isiT, isiB, lenB, absB, intB, gcdB, tupB, lstB, ltG, leG, gtG, geG, isG, isnG, o2I, isO, getS, addF, subF, mulF, eqG_ii, neG_ii, neG_bb, fdivG, modG, powG, raiseS, wipeE]; exact h2 hs
def cNeedF : Ct := fun ds S Q E => ∃ v l, ds = [v] ∧ okD l v = true ∧ (isFrac v = true → Q .non S) ∧ (isFrac v = false → E ⟨"InvalidFraction", []⟩ S)
theorem needF_ok (ds : List D) (S : Store) (Q : D → Store → Prop) (E : QX) (h : cNeedF ds S Q E) : fsneed_fraction cFrac (bodyEnds Q E) (startE Nneed_fraction ds) S := by
  obtain ⟨v, l, rfl, hv, h1, h2⟩ := h
  simp [fsneed_fraction, seqS, setS, retS, retN, exprS, nilS, ifS, parS, asgS, bindT, bindTs, bindF, callC, varF, retF, consF, nilF, iteV, truF, truD, notF, andF, orF, andV, orV, notV, chF, chT, bodyEnds, startE, optF, idxF, slcF, intF, noF, newL, tyD, isiT, isiB, lenB, absB, intB, gcdB, tupB, lstB, ltG, leG, gtG, geG, isG, isnG, o2I, isO, getS, addF, subF, mulF, eqG_ii, neG_ii, neG_bb, fdivG, modG, powG, raiseS, wipeE, Nneed_fraction]
  refine ⟨v, l, rfl, hv, ?_⟩
  cases hs : isFrac v with
  | true => simp [seqS, setS, retS, retN, exprS, nilS, ifS, parS, asgS, bindT, bindTs, bindF, callC, varF, retF, consF, nilF, iteV, truF, truD, notF, andF, orF, andV, orV, notV, chF, chT, bodyEnds, startE, optF, idxF, slcF, intF, noF, newL, tyD, isiT, isiB, lenB, absB, intB, gcdB, tupB, lstB, ltG, leG, gtG, geG, isG, isnG, o2I, isO, getS, addF, subF, mulF, eqG_ii, neG_ii, neG_bb, fdivG, modG, powG, raiseS, wipeE]; exact h1 hs
  | false => simp [seqS, setS, retS, retN, exprS, nilS, ifS, parS, asgS, bindT, bindTs, bindF, callC, varF, retF, consF, nilF, iteV, truF, truD, notF, andF, orF, andV, orV, notV, chF, chT, bodyEnds, startE, optF, idxF, slcF, intF, noF, newL, tyD, isiT, isiB, lenB, absB, intB, gcdB, tupB, lstB, ltG, leG, gtG, geG, isG, isnG, o2I, isO, getS, addF, subF, mulF, eqG_ii, neG_ii, neG_bb, fdivG, modG, powG, raiseS, wipeE]; exact h2 hs
/-! ### the degree -/
theorem allInt_map {α : Type} {f : α → Int} : ∀ {l : List α}, allSome asInt (l.map fun d => D.int (f d)) = some (l.map f)
  | [] => rfl
  | d :: l => by simp [allSome, asInt, allInt_map (l := l)]
def degT (ts : List Tm) : Int := maxL (-1) (ts.map fun t => (t.1 : Int) + t.2.1)
def cDeg : Ct := fun ds S Q _ => ∃ ts : List Tm, ds = [.tup (ts.map tmD)] ∧ ts.length ≤ 100 ∧ Q (.int (degT ts)) S
theorem map_tm {ts : List Tm} {f : D → D} {g : Tm → D} (h : ∀ t, f (tmD t) = g t) : (ts.map tmD).map f = ts.map g := by
  rw [List.map_map]
  exact List.map_congr_left fun t _ => h t
theorem deg_ok (ds : List D) (S : Store) (Q : D → Store → Prop) (E : QX) (h : cDeg ds S Q E) : fsdegree_in (bodyEnds Q E) (startE Ndegree_in ds) S := by
  obtain ⟨ts, rfl, hl, hq⟩ := h
  have hs := sizeLine_eq
  have z1 : ∀ k : Nat, k ≤ 100 → k ≤ sizeLine := fun k h => by omega
  simp [fsdegree_in, seqS, setS, retS, retN, exprS, nilS, ifS, parS, asgS, bindT, bindTs, bindF, callC, varF, retF, consF, nilF, iteV, truF, truD, notF, andF, orF, andV, orV, notV, chF, chT, bodyEnds, startE, optF, idxF, slcF, intF, noF, newL, tyD, isiT, isiB, lenB, absB, intB, gcdB, tupB, lstB, ltG, leG, gtG, geG, isG, isnG, o2I, isO, getS, addF, subF, mulF, eqG_ii, neG_ii, neG_bb, fdivG, modG, powG, raiseS, wipeE, Ndegree_in, z1]
  refine compF_val (ts.map tmD) (fun _ => True) (fun _ => true) (fun d => .int (((tmOf d).1 : Int) + (tmOf d).2.1)) (fun Q h => ?_) trivial (by simp; omega) (fun d hd => ?_) ?_
  · simp [seqS, setS, retS, retN, exprS, nilS, ifS, parS, asgS, bindT, bindTs, bindF, callC, varF, retF, consF, nilF, iteV, truF, truD, notF, andF, orF, andV, orV, notV, chF, chT, bodyEnds, startE, optF, idxF, slcF, intF, noF, newL, tyD, isiT, isiB, lenB, absB, intB, gcdB, tupB, lstB, ltG, leG, gtG, geG, isG, isnG, o2I, isO, getS, addF, subF, mulF, eqG_ii, neG_ii, neG_bb, fdivG, modG, powG, raiseS, wipeE, itsF]; exact h
  · obtain ⟨t, ht, rfl⟩ := List.mem_map.mp hd
    refine ⟨_, rfl, fun Q h => h, fun _ Q h => ?_⟩
    rw [tmOf_tm] at h
    simp [seqS, setS, retS, retN, exprS, nilS, ifS, parS, asgS, bindT, bindTs, bindF, callC, varF, retF, consF, nilF, iteV, truF, truD, notF, andF, orF, andV, orV, notV, chF, chT, bodyEnds, startE, optF, idxF, slcF, intF, noF, newL, tyD, isiT, isiB, lenB, absB, intB, gcdB, tupB, lstB, ltG, leG, gtG, geG, isG, isnG, o2I, isO, getS, addF, subF, mulF, eqG_ii, neG_ii, neG_bb, fdivG, modG, powG, raiseS, wipeE, L2.atI, L2.ixN]
    exact h
  · have ef : (ts.map tmD).filter (fun _ => true) = ts.map tmD := by simp
    rw [ef, map_tm (g := fun t => .int ((t.1 : Int) + t.2.1)) fun t => by rw [tmOf_tm]]
    simp [seqS, setS, retS, retN, exprS, nilS, ifS, parS, asgS, bindT, bindTs, bindF, callC, varF, retF, consF, nilF, iteV, truF, truD, notF, andF, orF, andV, orV, notV, chF, chT, bodyEnds, startE, optF, idxF, slcF, intF, noF, newL, tyD, isiT, isiB, lenB, absB, intB, gcdB, tupB, lstB, ltG, leG, gtG, geG, isG, isnG, o2I, isO, getS, addF, subF, mulF, eqG_ii, neG_ii, neG_bb, fdivG, modG, powG, raiseS, wipeE]
    refine ⟨by omega, ?_⟩
    have e2 : allSome asInt (.int (-1) :: ts.map fun t : Tm => D.int ((t.1 : Int) + t.2.1)) = some (-1 :: ts.map fun t => (t.1 : Int) + t.2.1) := by
      simp [allSome, asInt, allInt_map]
    have e3 : ∀ xs : List D, allSome asInt xs = some (-1 :: ts.map fun t => (t.1 : Int) + t.2.1) → maxB [.lst xs] [some (.tup (ts.map tmD)), none, none] S (fun d S' => Q d S') (fun x S' => E x S') := fun xs h => by
      unfold maxB optF
      simp only [getS, h]
      exact hq
    exact e3 _ e2
def cTot : Ct := fun ds S Q E => ∃ v l, ds = [v] ∧ okD l v = true ∧ l ≤ 10000 ∧ (surfB v = true → Q (.int (degT (tsOf v))) S) ∧ (surfB v = false → E ⟨"InvalidSurface", []⟩ S)
theorem tot_ok (ds : List D) (S : Store) (Q : D → Store → Prop) (E : QX) (h : cTot ds S Q E) : fstotal_degree cNeedS cDeg (bodyEnds Q E) (startE Ntotal_degree ds) S := by
  obtain ⟨v, l, rfl, hv, hl, h1, h2⟩ := h
  simp [fstotal_degree, seqS, setS, retS, retN, exprS, nilS, ifS, parS, asgS, bindT, bindTs, bindF, callC, varF, retF, consF, nilF, iteV, truF, truD, notF, andF, orF, andV, orV, notV, chF, chT, bodyEnds, startE, optF, idxF, slcF, intF, noF, newL, tyD, isiT, isiB, lenB, absB, intB, gcdB, tupB, lstB, ltG, leG, gtG, geG, isG, isnG, o2I, isO, getS, addF, subF, mulF, eqG_ii, neG_ii, neG_bb, fdivG, modG, powG, raiseS, wipeE, Ntotal_degree]
  refine ⟨v, l, rfl, hv, hl, fun hs => ?_, fun hs => h2 hs⟩
  obtain ⟨ts, rfl, k1, k2, k3⟩ := surf_ts hs
  have := h1 hs
  rw [tsOf_ts] at this
  exact ⟨ts, rfl, by omega, this⟩
/-! ### curves -/
def curveB (v : D) : Bool := surfB v && ((decide (1 ≤ degT (tsOf v)) && decide (degT (tsOf v) ≤ 3)) && (tsOf v).all fun t => decide (t.2.2.natAbs ≤ 1000))
def cCurve : Ct := fun ds S Q _ => ∃ v l, ds = [v] ∧ okD l v = true ∧ l ≤ 10000 ∧ Q (.bl (curveB v)) S
theorem curve_ok (ds : List D) (S : Store) (Q : D → Store → Prop) (E : QX) (h : cCurve ds S Q E) : fsfits_curve cSurf cDeg (bodyEnds Q E) (startE Nfits_curve ds) S := by
  obtain ⟨v, l, rfl, hv, hl, hq⟩ := h
  have hs := sizeLine_eq
  simp [fsfits_curve, seqS, setS, retS, retN, exprS, nilS, ifS, parS, asgS, bindT, bindTs, bindF, callC, varF, retF, consF, nilF, iteV, truF, truD, notF, andF, orF, andV, orV, notV, chF, chT, bodyEnds, startE, optF, idxF, slcF, intF, noF, newL, tyD, isiT, isiB, lenB, absB, intB, gcdB, tupB, lstB, ltG, leG, gtG, geG, isG, isnG, o2I, isO, getS, addF, subF, mulF, eqG_ii, neG_ii, neG_bb, fdivG, modG, powG, raiseS, wipeE, Nfits_curve]
  refine ⟨v, l, rfl, hv, hl, ?_⟩
  cases hsf : surfB v with
  | false =>
    simp [curveB, hsf] at hq
    simp [seqS, setS, retS, retN, exprS, nilS, ifS, parS, asgS, bindT, bindTs, bindF, callC, varF, retF, consF, nilF, iteV, truF, truD, notF, andF, orF, andV, orV, notV, chF, chT, bodyEnds, startE, optF, idxF, slcF, intF, noF, newL, tyD, isiT, isiB, lenB, absB, intB, gcdB, tupB, lstB, ltG, leG, gtG, geG, isG, isnG, o2I, isO, getS, addF, subF, mulF, eqG_ii, neG_ii, neG_bb, fdivG, modG, powG, raiseS, wipeE]
    exact hq
  | true =>
    obtain ⟨ts, rfl, k1, k2, k3⟩ := surf_ts hsf
    simp only [curveB, hsf, Bool.true_and, tsOf_ts] at hq
    simp [seqS, setS, retS, retN, exprS, nilS, ifS, parS, asgS, bindT, bindTs, bindF, callC, varF, retF, consF, nilF, iteV, truF, truD, notF, andF, orF, andV, orV, notV, chF, chT, bodyEnds, startE, optF, idxF, slcF, intF, noF, newL, tyD, isiT, isiB, lenB, absB, intB, gcdB, tupB, lstB, ltG, leG, gtG, geG, isG, isnG, o2I, isO, getS, addF, subF, mulF, eqG_ii, neG_ii, neG_bb, fdivG, modG, powG, raiseS, wipeE]
    refine ⟨ts, rfl, by omega, ?_⟩
    by_cases h1 : 1 ≤ degT ts
    · by_cases h3 : degT ts ≤ 3
      · simp [h1, h3] at hq
        simp [h1, h3, seqS, setS, retS, retN, exprS, nilS, ifS, parS, asgS, bindT, bindTs, bindF, callC, varF, retF, consF, nilF, iteV, truF, truD, notF, andF, orF, andV, orV, notV, chF, chT, bodyEnds, startE, optF, idxF, slcF, intF, noF, newL, tyD, isiT, isiB, lenB, absB, intB, gcdB, tupB, lstB, ltG, leG, gtG, geG, isG, isnG, o2I, isO, getS, addF, subF, mulF, eqG_ii, neG_ii, neG_bb, fdivG, modG, powG, raiseS, wipeE]
        refine compF_val (ts.map tmD) (fun _ => True) (fun _ => true) (fun d => .bl (decide ((tmOf d).2.2.natAbs ≤ 1000))) (fun Q h => ?_) trivial (by simp; omega) (fun d hd => ?_) ?_
        · simp [seqS, setS, retS, retN, exprS, nilS, ifS, parS, asgS, bindT, bindTs, bindF, callC, varF, retF, consF, nilF, iteV, truF, truD, notF, andF, orF, andV, orV, notV, chF, chT, bodyEnds, startE, optF, idxF, slcF, intF, noF, newL, tyD, isiT, isiB, lenB, absB, intB, gcdB, tupB, lstB, ltG, leG, gtG, geG, isG, isnG, o2I, isO, getS, addF, subF, mulF, eqG_ii, neG_ii, neG_bb, fdivG, modG, powG, raiseS, wipeE, itsF]; exact h
        · obtain ⟨t, ht, rfl⟩ := List.mem_map.mp hd
          refine ⟨_, rfl, fun Q h => h, fun _ Q h => ?_⟩
          rw [tmOf_tm] at h
          simp [seqS, setS, retS, retN, exprS, nilS, ifS, parS, asgS, bindT, bindTs, bindF, callC, varF, retF, consF, nilF, iteV, truF, truD, notF, andF, orF, andV, orV, notV, chF, chT, bodyEnds, startE, optF, idxF, slcF, intF, noF, newL, tyD, isiT, isiB, lenB, absB, intB, gcdB, tupB, lstB, ltG, leG, gtG, geG, isG, isnG, o2I, isO, getS, addF, subF, mulF, eqG_ii, neG_ii, neG_bb, fdivG, modG, powG, raiseS, wipeE]
          have e : decide ((if t.2.2 < 0 then -t.2.2 else t.2.2) ≤ 1000) = decide (t.2.2.natAbs ≤ 1000) := by
            apply decide_eq_decide.mpr
            split <;> omega
          rw [e]
          exact h
        · have ef : (ts.map tmD).filter (fun _ => true) = ts.map tmD := by simp
          rw [ef]
          simp only [Dx.allB, optF, getS, allSome_map, Option.map_some]
          have e : ((ts.map tmD).map fun d => decide ((tmOf d).2.2.natAbs ≤ 1000)).all id = ts.all fun t => decide (t.2.2.natAbs ≤ 1000) := by
            rw [List.all_map, List.all_map]
            congr 1
            try (funext t; simp [tmOf_tm])
          rw [e]
          simpa using hq
      · simp [h1, h3] at hq
        simp [h1, h3, seqS, setS, retS, retN, exprS, nilS, ifS, parS, asgS, bindT, bindTs, bindF, callC, varF, retF, consF, nilF, iteV, truF, truD, notF, andF, orF, andV, orV, notV, chF, chT, bodyEnds, startE, optF, idxF, slcF, intF, noF, newL, tyD, isiT, isiB, lenB, absB, intB, gcdB, tupB, lstB, ltG, leG, gtG, geG, isG, isnG, o2I, isO, getS, addF, subF, mulF, eqG_ii, neG_ii, neG_bb, fdivG, modG, powG, raiseS, wipeE]
        exact hq
    · simp [h1] at hq
      simp [h1, seqS, setS, retS, retN, exprS, nilS, ifS, parS, asgS, bindT, bindTs, bindF, callC, varF, retF, consF, nilF, iteV, truF, truD, notF, andF, orF, andV, orV, notV, chF, chT, bodyEnds, startE, optF, idxF, slcF, intF, noF, newL, tyD, isiT, isiB, lenB, absB, intB, gcdB, tupB, lstB, ltG, leG, gtG, geG, isG, isnG, o2I, isO, getS, addF, subF, mulF, eqG_ii, neG_ii, neG_bb, fdivG, modG, powG, raiseS, wipeE]
      exact hq
theorem iscurve_ok (ds : List D) (S : Store) (Q : D → Store → Prop) (E : QX) (h : cCurve ds S Q E) : fsis_curve cCurve (bodyEnds Q E) (startE Nis_curve ds) S := by
  obtain ⟨v, l, rfl, hv, hl, hq⟩ := h
  simp [fsis_curve, seqS, setS, retS, retN, exprS, nilS, ifS, parS, asgS, bindT, bindTs, bindF, callC, varF, retF, consF, nilF, iteV, truF, truD, notF, andF, orF, andV, orV, notV, chF, chT, bodyEnds, startE, optF, idxF, slcF, intF, noF, newL, tyD, isiT, isiB, lenB, absB, intB, gcdB, tupB, lstB, ltG, leG, gtG, geG, isG, isnG, o2I, isO, getS, addF, subF, mulF, eqG_ii, neG_ii, neG_bb, fdivG, modG, powG, raiseS, wipeE, Nis_curve]
  exact ⟨v, l, rfl, hv, hl, hq⟩
end LawX

set_option Elab.async false
set_option linter.all false
set_option maxRecDepth 100000
set_option maxHeartbeats 0
set_option exponentiation.threshold 5000
namespace LawX
open PySem PySem.Spec PyProof.Rows L2 Dx
/-! ### powers, values -/
def cPow : Ct := fun ds S Q _ => ∃ (a : Int) (n k : Nat), ds = [.int a, .int n] ∧ a.natAbs < 2 ^ k ∧ k * n ≤ 1000 ∧ k ≤ 1000 ∧ n ≤ 100 ∧ Q (.int (a ^ n)) S
theorem pow_bd {a : Int} {k j : Nat} (h : a.natAbs < 2 ^ k) : (a ^ j).natAbs ≤ 2 ^ (k * j) := by
  rw [Int.natAbs_pow, Nat.pow_mul]
  exact Nat.pow_le_pow_left (by omega) _
theorem pow_ok (ds : List D) (S : Store) (Q : D → Store → Prop) (E : QX) (h : cPow ds S Q E) : fspower (bodyEnds Q E) (startE Npower ds) S := by
  obtain ⟨a, n, k, rfl, ha, hkn, hk, hn, hq⟩ := h
  simp only [fspower, seqS, setS, forS]
  simp [seqS, setS, retS, retN, exprS, nilS, ifS, parS, asgS, bindT, bindTs, bindF, callC, varF, retF, consF, nilF, iteV, truF, truD, notF, andF, orF, andV, orV, notV, chF, chT, bodyEnds, startE, optF, idxF, slcF, intF, noF, newL, tyD, isiT, isiB, lenB, absB, intB, gcdB, tupB, lstB, ltG, leG, gtG, geG, isG, isnG, o2I, isO, getS, addF, subF, mulF, eqG_ii, neG_ii, neG_bb, fdivG, modG, powG, raiseS, wipeE, Npower, rng1]
  refine ⟨by simp [smallB]; omega, ?_⟩
  refine forL_inv (fun i τ S' => S' = S ∧ ∃ t, τ = [some (.int a), some (.int n), some (.int (a ^ i)), t]) _ 0 ⟨rfl, none, by simp⟩ ?_ ?_
  · rintro j d hj τ S' K ⟨rfl, t, rfl⟩ hK
    have hj2 : j < n := (rngItems_get hj).1
    refine ⟨trivial, [some (.int a), some (.int n), some (.int (a ^ (0 + j))), some d], rfl, ?_⟩
    rw [Nat.zero_add] at hK ⊢
    have b1 := pow_bd (j := j) ha
    have b2 : k * j ≤ 1000 := Nat.le_trans (Nat.mul_le_mul_left k (Nat.le_of_lt hj2)) hkn
    have hm : cMul (a ^ j) a = true := cmul_ok (Nat.lt_of_le_of_lt b1 (Nat.lt_of_le_of_lt (pow_mono b2) (by decide))) (Nat.lt_of_lt_of_le ha (pow_mono (by omega)))
    simp [seqS, setS, retS, retN, exprS, nilS, ifS, parS, asgS, bindT, bindTs, bindF, callC, varF, retF, consF, nilF, iteV, truF, truD, notF, andF, orF, andV, orV, notV, chF, chT, bodyEnds, startE, optF, idxF, slcF, intF, noF, newL, tyD, isiT, isiB, lenB, absB, intB, gcdB, tupB, lstB, ltG, leG, gtG, geG, isG, isnG, o2I, isO, getS, addF, subF, mulF, eqG_ii, neG_ii, neG_bb, fdivG, modG, powG, raiseS, wipeE, hm]
    exact hK _ _ ⟨rfl, some d, by rw [Int.pow_succ]⟩
  · rintro τ S' ⟨rfl, t, rfl⟩
    refine ⟨trivial, ?_⟩
    have e : 0 + (rngItems 0 1 n).length = n := by simp [rngItems]
    rw [e]
    exact hq
theorem Fz.pow {k : Nat} {a b : Int} (z : Fz k a b) (hk : 1 ≤ k) (m : Nat) (n : Nat) (hn : n ≤ m) (hm : 1 ≤ m) : Fz (k * m) (a ^ n) (b ^ n) := by
  have key : ∀ n, Fz (k * n + 1) (a ^ n) (b ^ n) ∧ (1 ≤ n → Fz (k * n) (a ^ n) (b ^ n)) := by
    intro n
    induction n with
    | zero => exact ⟨by simp [Fz], fun h => absurd h (by omega)⟩
    | succ n ih =>
      have h2 : Fz (k * (n + 1)) (a ^ (n + 1)) (b ^ (n + 1)) := by
        by_cases h0 : n = 0
        · subst h0
          have e1 : ∀ x : Int, x ^ (0 + 1) = x := fun x => by rw [Int.pow_succ, Int.pow_zero, Int.one_mul]
          rw [e1, e1, Nat.zero_add, Nat.mul_one]
          exact z
        · have := (ih.2 (by omega)).mul z
          rw [Int.pow_succ, Int.pow_succ, Nat.mul_succ]
          exact this
      exact ⟨h2.mono (by omega), fun _ => h2⟩
  by_cases h0 : n = 0
  · subst h0
    exact (key 0).1.mono (by have := Nat.mul_le_mul hk hm; omega)
  · exact ((key n).2 (by omega)).mono (Nat.mul_le_mul_left k hn)
theorem qf_pow {a b : Int} (h : 0 < b) : ∀ n : Nat, qf (a ^ n) (b ^ n) = qf a b ^ n
  | 0 => by
    simp [qf]
    rfl
  | n + 1 => by
    rw [Int.pow_succ, Int.pow_succ, qf_mul (Int.pow_pos h) h, qf_pow h n, Rat.pow_succ]
theorem qf_one (a : Int) : qf a 1 = (a : Rat) := by
  unfold qf
  simp [Rat.mkRat_one]
theorem ratD_int (a : Int) : ratD (a : Rat) = fr a 1 := by simp [ratD, fr]
def cRaised : Ct := fun ds S Q _ => ∃ (a b : Int) (n k : Nat), ds = [fr a b, .int n] ∧ Fz k a b ∧ k * n ≤ 1000 ∧ k ≤ 1000 ∧ n ≤ 100 ∧ Q (fr (a ^ n) (b ^ n)) S
theorem raised_ok (ds : List D) (S : Store) (Q : D → Store → Prop) (E : QX) (h : cRaised ds S Q E) : fsraised cPow (bodyEnds Q E) (startE Nraised ds) S := by
  obtain ⟨a, b, n, k, rfl, z, hkn, hk, hn, hq⟩ := h
  have hs := sizeLine_eq
  have z1 : ∀ k : Nat, k ≤ 100 → k ≤ sizeLine := fun k h => by omega
  simp [fsraised, seqS, setS, retS, retN, exprS, nilS, ifS, parS, asgS, bindT, bindTs, bindF, callC, varF, retF, consF, nilF, iteV, truF, truD, notF, andF, orF, andV, orV, notV, chF, chT, bodyEnds, startE, optF, idxF, slcF, intF, noF, newL, tyD, isiT, isiB, lenB, absB, intB, gcdB, tupB, lstB, ltG, leG, gtG, geG, isG, isnG, o2I, isO, getS, addF, subF, mulF, eqG_ii, neG_ii, neG_bb, fdivG, modG, powG, raiseS, wipeE, Nraised, fr, L2.atI, L2.ixN]
  refine ⟨a, n, k, rfl, z.1, hkn, hk, hn, ?_⟩
  refine ⟨b, n, k, rfl, z.bn, hkn, hk, hn, ?_⟩
  exact ⟨z1 _ (by simp), hq⟩
def tmV (p q : Rat) (t : Tm) : Rat := (t.2.2 : Rat) * (p ^ t.1 * q ^ t.2.1)
def valT (p q : Rat) (ts : List Tm) : Rat := ts.foldl (fun s t => s + tmV p q t) 0
def cVal : Ct := fun ds S Q _ => ∃ (ts : List Tm) (p q : Rat), ds = [.tup (ts.map tmD), ratD p, ratD q] ∧ ts.length ≤ 5 ∧ (∀ t ∈ ts, TmOk t) ∧ Qz 4 p ∧ Qz 4 q ∧ Q (ratD (valT p q ts)) S
theorem tm_size {p q : Rat} {t : Tm} (h : TmOk t) (hp : Qz 4 p) (hq : Qz 4 q) : Qz 32 (p ^ t.1 * q ^ t.2.1) := by
  obtain ⟨h1, _, _⟩ := h
  have a := (Fz.pow hp (by omega) 4 t.1 (by omega) (by omega)).q
  have b := (Fz.pow hq (by omega) 4 t.2.1 (by omega) (by omega)).q
  rw [qf_pow hp.2.1, qf_rat] at a
  rw [qf_pow hq.2.1, qf_rat] at b
  exact a.mul b
theorem own_size {t : Tm} (h : TmOk t) : Fz 32 t.2.2 1 := ⟨by have := h.2.1; omega, by decide, by decide⟩
theorem val_take {ts : List Tm} {p q : Rat} {j : Nat} {t : Tm} (h : ts[j]? = some t) : valT p q (ts.take (j + 1)) = valT p q (ts.take j) + tmV p q t := by
  unfold valT
  rw [List.take_add_one, h, List.foldl_append]
  rfl
theorem val_step {ts : List Tm} {p q : Rat} (h : ∀ t ∈ ts, TmOk t) (hp : Qz 4 p) (hq : Qz 4 q) : ∀ n, n ≤ ts.length → Qz (70 * (n + 1)) (valT p q (ts.take n))
  | 0, _ => by
    have e : valT p q (ts.take 0) = 0 := rfl
    rw [e]
    exact ⟨by decide, by decide, by decide⟩
  | n + 1, hn => by
    have hlt : n < ts.length := by omega
    have e : valT p q (ts.take (n + 1)) = valT p q (ts.take n) + tmV p q ts[n] := val_take (List.getElem?_eq_getElem hlt)
    rw [e]
    have hm := h ts[n] (List.getElem_mem hlt)
    have s1 : Qz 64 (tmV p q ts[n]) := by
      have o := (own_size hm).q
      rw [qf_one] at o
      exact o.mul (tm_size hm hp hq)
    exact ((val_step h hp hq n (by omega)).add s1).mono (by omega)
theorem get_tm {ts : List Tm} {j : Nat} {d : D} (h : (ts.map tmD)[j]? = some d) : ∃ t, ts[j]? = some t ∧ d = tmD t := by
  rw [List.getElem?_map] at h
  obtain ⟨t, h1, rfl⟩ := Option.map_eq_some_iff.mp h
  exact ⟨t, h1, rfl⟩
theorem val_ok (ds : List D) (S : Store) (Q : D → Store → Prop) (E : QX) (h : cVal ds S Q E) : fsvalue_in cPlus cTimes cRaised (bodyEnds Q E) (startE Nvalue_in ds) S := by
  obtain ⟨ts, p, q, rfl, hl, hm, hp, hqz, hq⟩ := h
  have hs := sizeLine_eq
  have z1 : ∀ k : Nat, k ≤ 100 → k ≤ sizeLine := fun k h => by omega
  simp only [fsvalue_in, seqS, setS, forS]
  simp [seqS, setS, retS, retN, exprS, nilS, ifS, parS, asgS, bindT, bindTs, bindF, callC, varF, retF, consF, nilF, iteV, truF, truD, notF, andF, orF, andV, orV, notV, chF, chT, bodyEnds, startE, optF, idxF, slcF, intF, noF, newL, tyD, isiT, isiB, lenB, absB, intB, gcdB, tupB, lstB, ltG, leG, gtG, geG, isG, isnG, o2I, isO, getS, addF, subF, mulF, eqG_ii, neG_ii, neG_bb, fdivG, modG, powG, raiseS, wipeE, Nvalue_in, itsF]
  refine forL_inv (fun n τ S' => S' = S ∧ ∃ i j c, τ = [some (.tup (ts.map tmD)), some (ratD p), some (ratD q), some (ratD (valT p q (ts.take n))), i, j, c]) _ 0 ⟨rfl, none, none, none, rfl⟩ ?_ ?_
  · rintro j d hj τ S' K ⟨rfl, i', j', c', rfl⟩ hK
    rw [Nat.zero_add] at hK ⊢
    obtain ⟨t, ht, rfl⟩ := get_tm hj
    have hmem := List.mem_of_getElem? ht
    have tk := hm t hmem
    have hjl : j < ts.length := (List.getElem?_eq_some_iff.mp ht).1
    have sz := val_step hm hp hqz j (by omega)
    refine ⟨trivial, [some (.tup (ts.map tmD)), some (ratD p), some (ratD q), some (ratD (valT p q (ts.take j))), some (.int t.1), some (.int t.2.1), some (.int t.2.2)], rfl, ?_⟩
    have hK := hK [some (.tup (ts.map tmD)), some (ratD p), some (ratD q), some (ratD (valT p q (ts.take (j + 1)))), some (.int t.1), some (.int t.2.1), some (.int t.2.2)] S' ⟨rfl, _, _, _, rfl⟩
    have e1 := val_take (p := p) (q := q) ht
    rw [e1] at hK
    revert hK sz
    generalize valT p q (ts.take j) = V
    intro sz hK
    obtain ⟨t1, t2, t3⟩ := tk
    simp [seqS, setS, retS, retN, exprS, nilS, ifS, parS, asgS, bindT, bindTs, bindF, callC, varF, retF, consF, nilF, iteV, truF, truD, notF, andF, orF, andV, orV, notV, chF, chT, bodyEnds, startE, optF, idxF, slcF, intF, noF, newL, tyD, isiT, isiB, lenB, absB, intB, gcdB, tupB, lstB, ltG, leG, gtG, geG, isG, isnG, o2I, isO, getS, addF, subF, mulF, eqG_ii, neG_ii, neG_bb, fdivG, modG, powG, raiseS, wipeE, z1]
    refine ⟨p.num, p.den, t.1, 4, rfl, hp, by omega, by omega, by omega, ?_⟩
    refine ⟨q.num, q.den, t.2.1, 4, rfl, hqz, by omega, by omega, by omega, ?_⟩
    refine ⟨16, _, _, _, _, rfl, by omega, Fz.pow hp (by omega) 4 t.1 (by omega) (by omega), Fz.pow hqz (by omega) 4 t.2.1 (by omega) (by omega), ?_⟩
    rw [qf_pow hp.2.1, qf_rat, qf_pow hqz.2.1, qf_rat]
    refine ⟨32, t.2.2, 1, _, _, rfl, by omega, own_size ⟨t1, t2, t3⟩, tm_size ⟨t1, t2, t3⟩ hp hqz, ?_⟩
    rw [qf_one, qf_rat]
    have s1 : Qz 64 ((t.2.2 : Rat) * (p ^ t.1 * q ^ t.2.1)) := by
      have o := (own_size (t := t) ⟨t1, t2, t3⟩).q
      rw [qf_one] at o
      exact o.mul (tm_size ⟨t1, t2, t3⟩ hp hqz)
    refine ⟨500, _, _, _, _, rfl, by omega, sz.mono (by omega), s1.mono (by omega), ?_⟩
    rw [qf_rat, qf_rat]
    exact hK
  · rintro τ S' ⟨rfl, i', j', c', rfl⟩
    refine ⟨trivial, ?_⟩
    have e : 0 + (ts.map tmD).length = ts.length := by simp
    rw [e, List.take_length]
    exact hq
theorem lval_ok (ds : List D) (S : Store) (Q : D → Store → Prop) (E : QX) (h : cVal ds S Q E) : fs_law_value_at cTimes cPlus (bodyEnds Q E) (startE N_law_value_at ds) S := by
  obtain ⟨ts, p, q, rfl, hl, hm, hp, hqz, hq⟩ := h
  have hs := sizeLine_eq
  have z1 : ∀ k : Nat, k ≤ 100 → k ≤ sizeLine := fun k h => by omega
  simp only [fs_law_value_at, seqS, setS, forS]
  simp [seqS, setS, retS, retN, exprS, nilS, ifS, parS, asgS, bindT, bindTs, bindF, callC, varF, retF, consF, nilF, iteV, truF, truD, notF, andF, orF, andV, orV, notV, chF, chT, bodyEnds, startE, optF, idxF, slcF, intF, noF, newL, tyD, isiT, isiB, lenB, absB, intB, gcdB, tupB, lstB, ltG, leG, gtG, geG, isG, isnG, o2I, isO, getS, addF, subF, mulF, eqG_ii, neG_ii, neG_bb, fdivG, modG, powG, raiseS, wipeE, N_law_value_at, itsF, z1]
  have e0 : D.tup [.int 0, .int 1] = ratD (valT p q (ts.take 0)) := rfl
  rw [e0]
  refine forL_inv (fun n τ S' => S' = S ∧ ∃ i j c m u, τ = [some (.tup (ts.map tmD)), some (ratD p), some (ratD q), some (ratD (valT p q (ts.take n))), i, j, c, m, u]) _ 0 ⟨rfl, none, none, none, none, none, rfl⟩ ?_ ?_
  · rintro j d hj τ S' K ⟨rfl, i', j', c', m', u', rfl⟩ hK
    rw [Nat.zero_add] at hK ⊢
    obtain ⟨t, ht, rfl⟩ := get_tm hj
    have hmem := List.mem_of_getElem? ht
    have tk := hm t hmem
    have hjl : j < ts.length := (List.getElem?_eq_some_iff.mp ht).1
    have sz := val_step hm hp hqz j (by omega)
    refine ⟨trivial, [some (.tup (ts.map tmD)), some (ratD p), some (ratD q), some (ratD (valT p q (ts.take j))), some (.int t.1), some (.int t.2.1), some (.int t.2.2), m', u'], rfl, ?_⟩
    have hK := fun m u => hK [some (.tup (ts.map tmD)), some (ratD p), some (ratD q), some (ratD (valT p q (ts.take (j + 1)))), some (.int t.1), some (.int t.2.1), some (.int t.2.2), m, u] S' ⟨rfl, _, _, _, _, _, rfl⟩
    have e1 := val_take (p := p) (q := q) ht
    rw [e1] at hK
    revert hK sz
    generalize valT p q (ts.take j) = V
    intro sz hK
    have tk0 := tk
    obtain ⟨t1, t2, t3⟩ := tk
    have o := (own_size tk0).q
    rw [qf_one] at o
    have pw : ∀ (r : Rat) (n : Nat), Qz 4 r → n ≤ 4 → Qz 16 (r ^ n) := fun r n hr hn => by
      have a := (Fz.pow hr (by omega) 4 n hn (by omega)).q
      rw [qf_pow hr.2.1, qf_rat] at a
      exact a
    simp [seqS, setS, retS, retN, exprS, nilS, ifS, parS, asgS, bindT, bindTs, bindF, callC, varF, retF, consF, nilF, iteV, truF, truD, notF, andF, orF, andV, orV, notV, chF, chT, bodyEnds, startE, optF, idxF, slcF, intF, noF, newL, tyD, isiT, isiB, lenB, absB, intB, gcdB, tupB, lstB, ltG, leG, gtG, geG, isG, isnG, o2I, isO, getS, addF, subF, mulF, eqG_ii, neG_ii, neG_bb, fdivG, modG, powG, raiseS, wipeE, z1, rng1]
    refine ⟨by simp [smallB]; omega, ?_⟩
    rw [show D.tup [.int t.2.2, .int 1] = ratD ((t.2.2 : Rat) * p ^ 0) by rw [Rat.pow_zero, Rat.mul_one, ratD_int]; rfl]
    refine forL_inv (fun n τ S'' => S'' = S' ∧ ∃ u, τ = [some (.tup (ts.map tmD)), some (ratD p), some (ratD q), some (ratD V), some (.int t.1), some (.int t.2.1), some (.int t.2.2), some (ratD ((t.2.2 : Rat) * p ^ n)), u]) _ 0 ⟨rfl, _, rfl⟩ ?_ ?_
    · rintro n d hn τ S'' K' ⟨rfl, u, rfl⟩ hK'
      rw [Nat.zero_add] at hK' ⊢
      have hn2 : n < t.1 := (rngItems_get hn).1
      refine ⟨trivial, [some (.tup (ts.map tmD)), some (ratD p), some (ratD q), some (ratD V), some (.int t.1), some (.int t.2.1), some (.int t.2.2), some (ratD ((t.2.2 : Rat) * p ^ n)), some d], rfl, ?_⟩
      have s2 := o.mul (pw p n hp (by omega))
      have hK' := hK' [some (.tup (ts.map tmD)), some (ratD p), some (ratD q), some (ratD V), some (.int t.1), some (.int t.2.1), some (.int t.2.2), some (ratD ((t.2.2 : Rat) * p ^ (n + 1))), some d] S'' ⟨rfl, _, rfl⟩
      rw [Rat.pow_succ, ← Rat.mul_assoc] at hK'
      revert hK' s2
      generalize (t.2.2 : Rat) * p ^ n = M
      intro s2 hK'
      simp [seqS, setS, retS, retN, exprS, nilS, ifS, parS, asgS, bindT, bindTs, bindF, callC, varF, retF, consF, nilF, iteV, truF, truD, notF, andF, orF, andV, orV, notV, chF, chT, bodyEnds, startE, optF, idxF, slcF, intF, noF, newL, tyD, isiT, isiB, lenB, absB, intB, gcdB, tupB, lstB, ltG, leG, gtG, geG, isG, isnG, o2I, isO, getS, addF, subF, mulF, eqG_ii, neG_ii, neG_bb, fdivG, modG, powG, raiseS, wipeE]
      refine ⟨100, _, _, _, _, rfl, by omega, s2.mono (by omega), hp.mono (by omega), ?_⟩
      rw [qf_rat, qf_rat]
      exact hK'
    · rintro τ S'' ⟨rfl, u, rfl⟩
      refine ⟨trivial, ?_⟩
      simp only [rngItems, List.length_map, List.length_range, Nat.zero_add, Int.toNat_natCast]
      have s3 := o.mul (pw p t.1 hp (by omega))
      have e5 : tmV p q t = (t.2.2 : Rat) * p ^ t.1 * q ^ t.2.1 := by rw [tmV, Rat.mul_assoc]
      rw [e5] at hK
      revert hK s3
      generalize (t.2.2 : Rat) * p ^ t.1 = M
      intro hK s3
      refine ⟨by simp [smallB]; omega, ?_⟩
      rw [show ratD M = ratD (M * q ^ 0) by rw [Rat.pow_zero, Rat.mul_one]]
      refine forL_inv (fun n τ S3 => S3 = S'' ∧ ∃ u, τ = [some (.tup (ts.map tmD)), some (ratD p), some (ratD q), some (ratD V), some (.int t.1), some (.int t.2.1), some (.int t.2.2), some (ratD (M * q ^ n)), u]) _ 0 ⟨rfl, _, rfl⟩ ?_ ?_
      · rintro n d hn τ S3 K' ⟨rfl, u, rfl⟩ hK'
        rw [Nat.zero_add] at hK' ⊢
        have hn2 : n < t.2.1 := (rngItems_get hn).1
        refine ⟨trivial, [some (.tup (ts.map tmD)), some (ratD p), some (ratD q), some (ratD V), some (.int t.1), some (.int t.2.1), some (.int t.2.2), some (ratD (M * q ^ n)), some d], rfl, ?_⟩
        have s2 := s3.mul (pw q n hqz (by omega))
        have hK' := hK' [some (.tup (ts.map tmD)), some (ratD p), some (ratD q), some (ratD V), some (.int t.1), some (.int t.2.1), some (.int t.2.2), some (ratD (M * q ^ (n + 1))), some d] S3 ⟨rfl, _, rfl⟩
        rw [Rat.pow_succ, ← Rat.mul_assoc] at hK'
        revert hK' s2
        generalize M * q ^ n = M2
        intro s2 hK'
        simp [seqS, setS, retS, retN, exprS, nilS, ifS, parS, asgS, bindT, bindTs, bindF, callC, varF, retF, consF, nilF, iteV, truF, truD, notF, andF, orF, andV, orV, notV, chF, chT, bodyEnds, startE, optF, idxF, slcF, intF, noF, newL, tyD, isiT, isiB, lenB, absB, intB, gcdB, tupB, lstB, ltG, leG, gtG, geG, isG, isnG, o2I, isO, getS, addF, subF, mulF, eqG_ii, neG_ii, neG_bb, fdivG, modG, powG, raiseS, wipeE]
        refine ⟨100, _, _, _, _, rfl, by omega, s2.mono (by omega), hqz.mono (by omega), ?_⟩
        rw [qf_rat, qf_rat]
        exact hK'
      · rintro τ S3 ⟨rfl, u, rfl⟩
        refine ⟨trivial, ?_⟩
        simp only [rngItems, List.length_map, List.length_range, Nat.zero_add, Int.toNat_natCast]
        have s2 := s3.mul (pw q t.2.1 hqz (by omega))
        revert hK s2
        generalize M * q ^ t.2.1 = M2
        intro hK s2
        simp [seqS, setS, retS, retN, exprS, nilS, ifS, parS, asgS, bindT, bindTs, bindF, callC, varF, retF, consF, nilF, iteV, truF, truD, notF, andF, orF, andV, orV, notV, chF, chT, bodyEnds, startE, optF, idxF, slcF, intF, noF, newL, tyD, isiT, isiB, lenB, absB, intB, gcdB, tupB, lstB, ltG, leG, gtG, geG, isG, isnG, o2I, isO, getS, addF, subF, mulF, eqG_ii, neG_ii, neG_bb, fdivG, modG, powG, raiseS, wipeE]
        refine ⟨500, _, _, _, _, rfl, by omega, sz.mono (by omega), s2.mono (by omega), ?_⟩
        rw [qf_rat, qf_rat]
        exact hK _ _
  · rintro τ S' ⟨rfl, i', j', c', m', u', rfl⟩
    refine ⟨trivial, ?_⟩
    have e : 0 + (ts.map tmD).length = ts.length := by simp
    rw [e, List.take_length]
    exact hq
def cValAt : Ct := fun ds S Q E => ∃ v x y l, ds = [v, x, y] ∧ okD l v = true ∧ l ≤ 10000 ∧ okD l x = true ∧ okD l y = true ∧ (surfB v = false → E ⟨"InvalidSurface", []⟩ S) ∧ (surfB v = true → isFrac x = false → E ⟨"InvalidFraction", []⟩ S) ∧ (surfB v = true → isFrac x = true → isFrac y = false → E ⟨"InvalidFraction", []⟩ S) ∧
  (surfB v = true → isFrac x = true → isFrac y = true → ∃ (ts : List Tm) (p q : Rat), v = .tup (ts.map tmD) ∧ x = ratD p ∧ y = ratD q ∧ ts.length ≤ 5 ∧ (∀ t ∈ ts, TmOk t) ∧ Qz 4 p ∧ Qz 4 q ∧ Q (ratD (valT p q ts)) S)
theorem valat_ok (ds : List D) (S : Store) (Q : D → Store → Prop) (E : QX) (h : cValAt ds S Q E) : fsvalue_at cNeedS cNeedF cVal (bodyEnds Q E) (startE Nvalue_at ds) S := by
  obtain ⟨v, x, y, l, rfl, hv, hl, hx, hy, h1, h2, h3, h4⟩ := h
  simp [fsvalue_at, seqS, setS, retS, retN, exprS, nilS, ifS, parS, asgS, bindT, bindTs, bindF, callC, varF, retF, consF, nilF, iteV, truF, truD, notF, andF, orF, andV, orV, notV, chF, chT, bodyEnds, startE, optF, idxF, slcF, intF, noF, newL, tyD, isiT, isiB, lenB, absB, intB, gcdB, tupB, lstB, ltG, leG, gtG, geG, isG, isnG, o2I, isO, getS, addF, subF, mulF, eqG_ii, neG_ii, neG_bb, fdivG, modG, powG, raiseS, wipeE, Nvalue_at]
  refine ⟨v, l, rfl, hv, hl, fun hs => ?_, fun hs => h1 hs⟩
  refine ⟨x, l, rfl, hx, fun hf => ?_, fun hf => h2 hs hf⟩
  refine ⟨y, l, rfl, hy, fun hg => ?_, fun hg => h3 hs hf hg⟩
  obtain ⟨ts, p, q, rfl, rfl, rfl, k1, k2, k3, k4, k5⟩ := h4 hs hf hg
  exact ⟨ts, p, q, rfl, k1, k2, k3, k4, k5⟩
end LawX

set_option Elab.async false
set_option linter.all false
set_option maxRecDepth 100000
set_option maxHeartbeats 0
set_option exponentiation.threshold 5000
namespace LawX
open PySem PySem.Spec PyProof.Rows L2 Dx
/-! ### sorted lists of terms -/
theorem lexI_anti : ∀ (a b : List Int), lexI a b = false → lexI b a = false → a = b
  | [], [], _, _ => rfl
  | [], _ :: _, h, _ => by simp [lexI] at h
  | _ :: _, [], _, h => by simp [lexI] at h
  | x :: a, y :: b, h, h' => by
    unfold lexI at h h'
    by_cases e : x = y
    · rw [if_pos e] at h
      rw [if_pos e.symm] at h'
      rw [e, lexI_anti a b h h']
    · rw [if_neg e] at h
      rw [if_neg (fun z => e z.symm)] at h'
      have a1 := of_decide_eq_false h
      have a2 := of_decide_eq_false h'
      exact absurd (by omega) e
theorem flat_tm (t : Tm) : flatD (tmD t) = [(t.1 : Int), t.2.1, t.2.2] := rfl
theorem same_tm (t u : Tm) : sameD (tmD t) (tmD u) = true := rfl
theorem tm_anti {t u : Tm} (h : ltD (tmD t) (tmD u) = false) (h' : ltD (tmD u) (tmD t) = false) : t = u := by
  rw [flat_lt _ _ (same_tm _ _), flat_tm, flat_tm] at h h'
  have e := lexI_anti _ _ h h'
  simp at e
  obtain ⟨a, b, c⟩ := t
  obtain ⟨a', b', c'⟩ := u
  simp at e ⊢
  exact ⟨by omega, by omega, e.2.2⟩
theorem tm_cmpOk (t : Tm) : cmpOk (tmD t) = true := rfl
theorem fit_tms (ts : List Tm) : fitS (ts.map tmD) = true := by
  unfold fitS
  rw [List.all_eq_true]
  intro x hx
  obtain ⟨t, ht, rfl⟩ := List.mem_map.mp hx
  have e3 : ((ts.map tmD).all fun y => sameD (tmD t) y) = true := by
    rw [List.all_eq_true]
    intro y hy
    obtain ⟨u, hu, rfl⟩ := List.mem_map.mp hy
    rfl
  rw [tm_cmpOk, e3]
  rfl
/-- a sorted rearrangement is one -/
theorem sorted_one : ∀ {l m : List Tm}, l.Perm m → (l.map tmD).Pairwise (fun x y => ltD y x = false) → (m.map tmD).Pairwise (fun x y => ltD y x = false) → l = m
  | [], m, p, _, _ => (List.Perm.nil_eq p)
  | t :: l, [], p, _, _ => absurd p.length_eq (by simp)
  | t :: l, u :: m, p, h1, h2 => by
    obtain ⟨a1, a2⟩ := List.pairwise_cons.mp h1
    obtain ⟨b1, b2⟩ := List.pairwise_cons.mp h2
    have e : t = u := by
      rcases List.mem_cons.mp (p.mem_iff.mp (List.mem_cons_self (a := t) (l := l))) with q | q
      · exact q
      · rcases List.mem_cons.mp (p.mem_iff.mpr (List.mem_cons_self (a := u) (l := m))) with q2 | q2
        · exact q2.symm
        · exact tm_anti (b1 (tmD t) (List.mem_map.mpr ⟨t, q, rfl⟩)) (a1 (tmD u) (List.mem_map.mpr ⟨u, q2, rfl⟩))
    subst e
    rw [sorted_one p.cons_inv a2 b2]
theorem perm_tms : ∀ {es : List D} {ts : List Tm}, es.Perm (ts.map tmD) → ∃ us : List Tm, es = us.map tmD ∧ us.Perm ts := by
  intro es ts p
  have hm : ∀ d ∈ es, tmD (tmOf d) = d := fun d hd => by
    obtain ⟨t, _, rfl⟩ := List.mem_map.mp (p.mem_iff.mp hd)
    rw [tmOf_tm]
  refine ⟨es.map tmOf, ?_, ?_⟩
  · rw [List.map_map]
    exact (List.map_id es).symm.trans (List.map_congr_left fun d hd => (hm d hd).symm)
  · have := p.map tmOf
    rw [List.map_map] at this
    have e : (tmOf ∘ tmD) = id := funext tmOf_tm
    rw [e, List.map_id] at this
    exact this
def swT (t : Tm) : Tm := (t.2.1, t.1, t.2.2)
/-- the sorted list of the turned terms, whichever the sort makes -/
def Turned (ts us : List Tm) : Prop := us.Perm (ts.map swT) ∧ (us.map tmD).Pairwise (fun x y => ltD y x = false)
def cTurnIn : Ct := fun ds S Q _ => ∃ ts : List Tm, ds = [.tup (ts.map tmD)] ∧ ts.length ≤ 100 ∧ ∀ us, Turned ts us → Q (.tup (us.map tmD)) S
theorem turnin_ok (ds : List D) (S : Store) (Q : D → Store → Prop) (E : QX) (h : cTurnIn ds S Q E) : fsturned_in (bodyEnds Q E) (startE Nturned_in ds) S := by
  obtain ⟨ts, rfl, hl, hq⟩ := h
  have hs := sizeLine_eq
  have z1 : ∀ k : Nat, k ≤ 100 → k ≤ sizeLine := fun k h => by omega
  simp only [fsturned_in, retS, biE, bindF, consF, nilF]
  refine compF_val (ts.map tmD) (fun _ => True) (fun _ => true) (fun d => tmD (swT (tmOf d))) (fun Q h => ?_) trivial (by simp; omega) (fun d hd => ?_) ?_
  · simp [seqS, setS, retS, retN, exprS, nilS, ifS, parS, asgS, bindT, bindTs, bindF, callC, varF, retF, consF, nilF, iteV, truF, truD, notF, andF, orF, andV, orV, notV, chF, chT, bodyEnds, startE, optF, idxF, slcF, intF, noF, newL, tyD, isiT, isiB, lenB, absB, intB, gcdB, tupB, lstB, ltG, leG, gtG, geG, isG, isnG, o2I, isO, getS, addF, subF, mulF, eqG_ii, neG_ii, neG_bb, fdivG, modG, powG, raiseS, wipeE, itsF, Nturned_in]; exact h
  · obtain ⟨t, ht, rfl⟩ := List.mem_map.mp hd
    refine ⟨_, rfl, fun Q h => h, fun _ Q h => ?_⟩
    rw [tmOf_tm] at h
    simp [seqS, setS, retS, retN, exprS, nilS, ifS, parS, asgS, bindT, bindTs, bindF, callC, varF, retF, consF, nilF, iteV, truF, truD, notF, andF, orF, andV, orV, notV, chF, chT, bodyEnds, startE, optF, idxF, slcF, intF, noF, newL, tyD, isiT, isiB, lenB, absB, intB, gcdB, tupB, lstB, ltG, leG, gtG, geG, isG, isnG, o2I, isO, getS, addF, subF, mulF, eqG_ii, neG_ii, neG_bb, fdivG, modG, powG, raiseS, wipeE, z1]
    exact h
  · have ef : (ts.map tmD).filter (fun _ => true) = ts.map tmD := by simp
    rw [ef, map_tm (g := fun t => tmD (swT t)) fun t => by rw [tmOf_tm]]
    have e2 : (ts.map fun t => tmD (swT t)) = (ts.map swT).map tmD := by rw [List.map_map]; rfl
    rw [e2]
    simp only [retF, sortB, srcS]
    refine ⟨fit_tms _, fun es p pw => ?_⟩
    obtain ⟨us, rfl, p2⟩ := perm_tms p
    simp [seqS, setS, retS, retN, exprS, nilS, ifS, parS, asgS, bindT, bindTs, bindF, callC, varF, retF, consF, nilF, iteV, truF, truD, notF, andF, orF, andV, orV, notV, chF, chT, bodyEnds, startE, optF, idxF, slcF, intF, noF, newL, tyD, isiT, isiB, lenB, absB, intB, gcdB, tupB, lstB, ltG, leG, gtG, geG, isG, isnG, o2I, isO, getS, addF, subF, mulF, eqG_ii, neG_ii, neG_bb, fdivG, modG, powG, raiseS, wipeE]
    exact hq us ⟨p2, pw⟩
def cTurned : Ct := fun ds S Q E => ∃ v l, ds = [v] ∧ okD l v = true ∧ l ≤ 10000 ∧ (surfB v = true → ∀ us, Turned (tsOf v) us → Q (.tup (us.map tmD)) S) ∧ (surfB v = false → E ⟨"InvalidSurface", []⟩ S)
theorem turned_ok (ds : List D) (S : Store) (Q : D → Store → Prop) (E : QX) (h : cTurned ds S Q E) : fsturned cNeedS cTurnIn (bodyEnds Q E) (startE Nturned ds) S := by
  obtain ⟨v, l, rfl, hv, hl, h1, h2⟩ := h
  simp [fsturned, seqS, setS, retS, retN, exprS, nilS, ifS, parS, asgS, bindT, bindTs, bindF, callC, varF, retF, consF, nilF, iteV, truF, truD, notF, andF, orF, andV, orV, notV, chF, chT, bodyEnds, startE, optF, idxF, slcF, intF, noF, newL, tyD, isiT, isiB, lenB, absB, intB, gcdB, tupB, lstB, ltG, leG, gtG, geG, isG, isnG, o2I, isO, getS, addF, subF, mulF, eqG_ii, neG_ii, neG_bb, fdivG, modG, powG, raiseS, wipeE, Nturned]
  refine ⟨v, l, rfl, hv, hl, fun hs => ?_, fun hs => h2 hs⟩
  obtain ⟨ts, rfl, k1, k2, k3⟩ := surf_ts hs
  have := h1 hs
  rw [tsOf_ts] at this
  exact ⟨ts, rfl, by omega, this⟩
/-! ### alike -/
mutual
/-- ints and tuples of such -/
def intsB : D → Bool
  | .int _ => true
  | .tup ds => intsBs ds
  | _ => false
def intsBs : List D → Bool
  | [] => true
  | d :: ds => intsB d && intsBs ds
end
theorem intsBs_mem : ∀ {ds : List D} {d : D}, intsBs ds = true → d ∈ ds → intsB d = true
  | e :: ds, d, h, hm => by
    simp only [intsBs, Bool.and_eq_true] at h
    rcases List.mem_cons.mp hm with rfl | hm
    · exact h.1
    · exact intsBs_mem h.2 hm
mutual
theorem ints_dat : ∀ (d : D), intsB d = true → datD d = true
  | .int _, _ => rfl
  | .tup ds, h => by simp only [datD]; exact ints_dats ds (by simpa [intsB] using h)
  | .non, h => by simp [intsB] at h
  | .bl _, h => by simp [intsB] at h
  | .str _, h => by simp [intsB] at h
  | .lst _, h => by simp [intsB] at h
  | .obj _, h => by simp [intsB] at h
  | .ty _, h => by simp [intsB] at h
  | .gl _, h => by simp [intsB] at h
  | .exv _, h => by simp [intsB] at h
theorem ints_dats : ∀ (ds : List D), intsBs ds = true → datDs ds = true
  | [], _ => rfl
  | d :: ds, h => by
    simp only [intsBs, Bool.and_eq_true] at h
    simp only [datDs, ints_dat d h.1, ints_dats ds h.2, Bool.and_true]
end
mutual
theorem ints_eqD : ∀ (d : D), intsB d = true → eqD d d = true
  | .int _, _ => by simp [eqD]
  | .tup ds, h => by simp only [eqD]; exact ints_eqDs ds (by simpa [intsB] using h)
  | .non, h => by simp [intsB] at h
  | .bl _, h => by simp [intsB] at h
  | .str _, h => by simp [intsB] at h
  | .lst _, h => by simp [intsB] at h
  | .obj _, h => by simp [intsB] at h
  | .ty _, h => by simp [intsB] at h
  | .gl _, h => by simp [intsB] at h
  | .exv _, h => by simp [intsB] at h
theorem ints_eqDs : ∀ (ds : List D), intsBs ds = true → eqDs ds ds = true
  | [], _ => rfl
  | d :: ds, h => by
    simp only [intsBs, Bool.and_eq_true] at h
    simp only [eqDs, ints_eqD d h.1, ints_eqDs ds h.2, Bool.and_true]
end
def cAlike (n : Nat) : Ct := fun ds S Q _ => ∃ v l, ds = [v, v] ∧ intsB v = true ∧ depD v ≤ n ∧ n ≤ 60 ∧ okD l v = true ∧ l ≤ 10000 ∧ Q (.bl true) S
theorem zip_self : ∀ (xs : List D), zipD xs xs = xs.map fun d => .tup [d, d]
  | [] => rfl
  | x :: xs => by
    have := zip_self xs
    unfold zipD at this ⊢
    rw [List.zipWith_cons_cons, this]
    rfl
theorem alike_ok (n : Nat) (c : Ct) (hcc : ∀ e, n = e + 1 → c = cAlike e) (ds : List D) (S : Store) (Q : D → Store → Prop) (E : QX) (h : cAlike n ds S Q E) : fs_law_alike c (bodyEnds Q E) (startE N_law_alike ds) S := by
  obtain ⟨v, l, rfl, hv, hd, hn, ho, hl, hq⟩ := h
  have hs := sizeLine_eq
  have z1 : ∀ k : Nat, k ≤ 100 → k ≤ sizeLine := fun k h => by omega
  have hdat := ints_dat v hv
  have heq := ints_eqD v hv
  cases v with
  | int i =>
    simp [fs_law_alike, seqS, setS, retS, retN, exprS, nilS, ifS, parS, asgS, bindT, bindTs, bindF, callC, varF, retF, consF, nilF, iteV, truF, truD, notF, andF, orF, andV, orV, notV, chF, chT, bodyEnds, startE, optF, idxF, slcF, intF, noF, newL, tyD, isiT, isiB, lenB, absB, intB, gcdB, tupB, lstB, ltG, leG, gtG, geG, isG, isnG, o2I, isO, getS, addF, subF, mulF, eqG_ii, neG_ii, neG_bb, fdivG, modG, powG, raiseS, wipeE, N_law_alike]
    exact hq
  | tup xs =>
    obtain ⟨e, rfl⟩ : ∃ e, n = e + 1 := by
      cases n with
      | zero => simp [depD] at hd
      | succ e => exact ⟨e, rfl⟩
    have hx := okD_tup.mp ho
    simp [fs_law_alike, seqS, setS, retS, retN, exprS, nilS, ifS, parS, asgS, bindT, bindTs, bindF, callC, varF, retF, consF, nilF, iteV, truF, truD, notF, andF, orF, andV, orV, notV, chF, chT, bodyEnds, startE, optF, idxF, slcF, intF, noF, newL, tyD, isiT, isiB, lenB, absB, intB, gcdB, tupB, lstB, ltG, leG, gtG, geG, isG, isnG, o2I, isO, getS, addF, subF, mulF, eqG_ii, neG_ii, neG_bb, fdivG, modG, powG, raiseS, wipeE, N_law_alike]
    refine compF_val (xs.map fun d => .tup [d, d]) (fun _ => True) (fun _ => false) (fun d => .int 1) (fun Q h => ?_) trivial (by simp; omega) (fun d hd2 => ?_) ?_
    · simp [seqS, setS, retS, retN, exprS, nilS, ifS, parS, asgS, bindT, bindTs, bindF, callC, varF, retF, consF, nilF, iteV, truF, truD, notF, andF, orF, andV, orV, notV, chF, chT, bodyEnds, startE, optF, idxF, slcF, intF, noF, newL, tyD, isiT, isiB, lenB, absB, intB, gcdB, tupB, lstB, ltG, leG, gtG, geG, isG, isnG, o2I, isO, getS, addF, subF, mulF, eqG_ii, neG_ii, neG_bb, fdivG, modG, powG, raiseS, wipeE, zipI]
      rw [zip_self]
      exact h
    · obtain ⟨u, hu, rfl⟩ := List.mem_map.mp hd2
      refine ⟨[some (.tup xs), some (.tup xs), some u, some u], rfl, fun Q h => ?_, fun z => by cases z⟩
      rw [hcc e rfl]
      simp [seqS, setS, retS, retN, exprS, nilS, ifS, parS, asgS, bindT, bindTs, bindF, callC, varF, retF, consF, nilF, iteV, truF, truD, notF, andF, orF, andV, orV, notV, chF, chT, bodyEnds, startE, optF, idxF, slcF, intF, noF, newL, tyD, isiT, isiB, lenB, absB, intB, gcdB, tupB, lstB, ltG, leG, gtG, geG, isG, isnG, o2I, isO, getS, addF, subF, mulF, eqG_ii, neG_ii, neG_bb, fdivG, modG, powG, raiseS, wipeE]
      refine ⟨u, l, rfl, intsBs_mem (by simpa [intsB] using hv) hu, by have := depD_mem hd hu; omega, by omega, hx.2 u hu, hl, ?_⟩
      simp [seqS, setS, retS, retN, exprS, nilS, ifS, parS, asgS, bindT, bindTs, bindF, callC, varF, retF, consF, nilF, iteV, truF, truD, notF, andF, orF, andV, orV, notV, chF, chT, bodyEnds, startE, optF, idxF, slcF, intF, noF, newL, tyD, isiT, isiB, lenB, absB, intB, gcdB, tupB, lstB, ltG, leG, gtG, geG, isG, isnG, o2I, isO, getS, addF, subF, mulF, eqG_ii, neG_ii, neG_bb, fdivG, modG, powG, raiseS, wipeE]
      exact h
    · have ef : ((xs.map fun d => D.tup [d, d]).filter fun _ => false).map (fun d => D.int 1) = [] := by simp
      rw [ef]
      try simp [seqS, setS, retS, retN, exprS, nilS, ifS, parS, asgS, bindT, bindTs, bindF, callC, varF, retF, consF, nilF, iteV, truF, truD, notF, andF, orF, andV, orV, notV, chF, chT, bodyEnds, startE, optF, idxF, slcF, intF, noF, newL, tyD, isiT, isiB, lenB, absB, intB, gcdB, tupB, lstB, ltG, leG, gtG, geG, isG, isnG, o2I, isO, getS, addF, subF, mulF, eqG_ii, neG_ii, neG_bb, fdivG, modG, powG, raiseS, wipeE]
      refine eqG_of rfl rfl (by simp [depD, depDs]) (by simp [depD, depDs]) ?_
      simp [eqD, eqDs]
      exact hq
  | _ => simp [intsB] at hv
end LawX

set_option Elab.async false
set_option linter.all false
set_option maxRecDepth 100000
set_option maxHeartbeats 0
set_option exponentiation.threshold 5000
namespace LawX
open PySem PySem.Spec PyProof.Rows L2 Dx
/-! ### a drawn surface -/
def vals6 : List Int := [1, -1, 2, -7, 1000, 1001]
def DJp (p : List Key × D) : Prop := ∃ i j v : Int, p = ([.inl i, .inl j], .int v) ∧ 0 ≤ i ∧ 0 ≤ j ∧ i + j ≤ 4 ∧ v ∈ vals6
def DJ (kvs : List (List Key × D)) : Prop := (∀ p ∈ kvs, DJp p) ∧ (kvs.map (·.1)).Nodup
theorem put_DJ {kvs : List (List Key × D)} {i j v : Int} (h : DJ kvs) (h1 : 0 ≤ i) (h2 : 0 ≤ j) (h3 : i + j ≤ 4) (h4 : v ∈ vals6) : DJ (putD kvs [.inl i, .inl j] (.int v)) := by
  obtain ⟨a, b⟩ := h
  unfold putD
  split
  · refine ⟨fun p hp => ?_, ?_⟩
    · obtain ⟨q, hq, rfl⟩ := List.mem_map.mp hp
      obtain ⟨i', j', v', rfl, c⟩ := a q hq
      by_cases e : ([.inl i', .inl j'] : List Key) = [.inl i, .inl j]
      · simp only [e, if_true]
        exact ⟨i, j, v, rfl, h1, h2, h3, h4⟩
      · simp only [e, if_false]
        exact ⟨i', j', v', rfl, c⟩
    · have : (kvs.map fun kv => if kv.1 = ([.inl i, .inl j] : List Key) then (kv.1, D.int v) else kv).map (·.1) = kvs.map (·.1) := by
        rw [List.map_map]
        apply List.map_congr_left
        intro kv _
        simp only [Function.comp]
        split <;> rfl
      rw [this]
      exact b
  · rename_i hno
    refine ⟨fun p hp => ?_, ?_⟩
    · rcases List.mem_append.mp hp with hp | hp
      · exact a p hp
      · rw [List.mem_singleton.mp hp]
        exact ⟨i, j, v, rfl, h1, h2, h3, h4⟩
    · rw [List.map_append, List.nodup_append]
      refine ⟨b, by simp, fun x hx y hy e => hno ?_⟩
      simp only [List.map_cons, List.map_nil, List.mem_singleton] at hy
      obtain ⟨q, hq, rfl⟩ := List.mem_map.mp hx
      rw [List.any_eq_true]
      exact ⟨q, hq, by simp [e, hy]⟩
theorem val_DJ : ∀ {kvs : List (List Key × D)} {k : List Key}, (∀ p ∈ kvs, DJp p) → k ∈ kvs.map (·.1) → ∃ v : Int, valD kvs k = some (.int v) ∧ v ∈ vals6
  | [], k, _, h => absurd h (by simp)
  | p :: kvs, k, h, hk => by
    obtain ⟨i, j, v, rfl, _, _, _, v1⟩ := h p (by simp)
    by_cases e : ([.inl i, .inl j] : List Key) = k
    · exact ⟨v, by simp [valD, e], v1⟩
    · obtain ⟨v', h1, h2⟩ := val_DJ (kvs := kvs) (fun q hq => h q (by simp [hq])) (by
        simp only [List.map_cons, List.mem_cons] at hk
        rcases hk with hk | hk
        · exact absurd hk.symm e
        · exact hk)
      refine ⟨v', ?_, h2⟩
      unfold valD at h1 ⊢
      simp only [List.find?_cons, e, decide_false]
      exact h1
theorem DJ.key {kvs : List (List Key × D)} (h : DJ kvs) {d : D} (hd : d ∈ kvs.map fun p => keyT p.1) : ∃ i j v : Int, d = pairD i j ∧ 0 ≤ i ∧ 0 ≤ j ∧ i + j ≤ 4 ∧ v ∈ vals6 ∧ valD kvs [.inl i, .inl j] = some (.int v) := by
  obtain ⟨p, hp, rfl⟩ := List.mem_map.mp hd
  obtain ⟨i, j, v, rfl, h1, h2, h3, _⟩ := h.1 p hp
  obtain ⟨v', e, v1⟩ := val_DJ h.1 (k := [.inl i, .inl j]) (List.mem_map.mpr ⟨_, hp, rfl⟩)
  exact ⟨i, j, v', rfl, h1, h2, h3, v1, e⟩
def DrawnOk (ts : List Tm) : Prop := ts.length ≤ 5 ∧ (∀ t ∈ ts, t.1 + t.2.1 ≤ 4 ∧ t.2.2 ∈ vals6) ∧ ascB ((ts.map tmD).map powD) = true
theorem DrawnOk.tm {ts : List Tm} (h : DrawnOk ts) : ∀ t ∈ ts, TmOk t := fun t ht => by
  obtain ⟨a, b⟩ := h.2.1 t ht
  have : ∀ v ∈ vals6, v.natAbs ≤ 1000000 ∧ v ≠ 0 := by decide
  exact ⟨a, this _ b⟩
theorem keys_drawn {kvs : List (List Key × D)} (h : DJ kvs) (hl : kvs.length ≤ 5) {es : List D} (p : es.Perm (kvs.map fun p => keyT p.1)) (pw : es.Pairwise fun x y => ltD y x = false) :
    ∃ ts : List Tm, (es.map fun d => D.tup [d, valOf kvs d]) = ts.map tmD ∧ DrawnOk ts := by
  have hm : ∀ d ∈ es, ∃ i j v : Int, d = pairD i j ∧ 0 ≤ i ∧ 0 ≤ j ∧ i + j ≤ 4 ∧ v ∈ vals6 ∧ valOf kvs d = .int v := fun d hd => by
    obtain ⟨i, j, v, rfl, a, b, c, d1, e⟩ := h.key (p.mem_iff.mp hd)
    refine ⟨i, j, v, rfl, a, b, c, d1, ?_⟩
    have : Dx.keyOf [.int i, .int j] = some [.inl i, .inl j] := rfl
    simp only [valOf, Dx.pairD, this, e, Option.getD_some]
  have hp : ∀ d ∈ es, isPair d := fun d hd => by
    obtain ⟨i, j, v, rfl, _⟩ := hm d hd
    exact ⟨i, j, rfl⟩
  have hn : es.Nodup := by
    refine p.nodup_iff.mpr ?_
    have e : (kvs.map fun p => keyT p.1) = (kvs.map (·.1)).map keyT := by rw [List.map_map]; rfl
    rw [e]
    exact List.pairwise_map.mpr (h.2.imp fun hne e => hne (keyT_inj e))
  have hlen : es.length ≤ 5 := by rw [p.length_eq, List.length_map]; exact hl
  have asc : es.Pairwise fun x y => ltD x y = true := List.Pairwise.imp_of_mem (fun {a b} ha hb hab => pair_tot (hp a ha) (hp b hb) hab.1 hab.2) (pw.and hn)
  have et : (es.map fun d => D.tup [d, valOf kvs d]) = (es.map fun d => tmOf (.tup [d, valOf kvs d])).map tmD := by
    rw [List.map_map]
    apply List.map_congr_left
    intro d hd
    obtain ⟨i, j, v, rfl, a, b, c, d1, e⟩ := hm d hd
    simp only [Function.comp]
    rw [e]
    show D.tup [pairD i j, .int v] = tmD (i.toNat, j.toNat, v)
    simp only [tmD, Dx.pairD]
    rw [Int.toNat_of_nonneg a, Int.toNat_of_nonneg b]
  refine ⟨_, et, by simpa using hlen, fun t ht => ?_, ?_⟩
  · obtain ⟨d, hd, rfl⟩ := List.mem_map.mp ht
    obtain ⟨i, j, v, rfl, a, b, c, d1, e⟩ := hm d hd
    rw [e]
    show i.toNat + j.toNat ≤ 4 ∧ v ∈ vals6
    exact ⟨by omega, d1⟩
  · rw [← et]
    have e1 : (es.map fun d => D.tup [d, valOf kvs d]).map powD = es := by
      rw [List.map_map]
      have : (powD ∘ fun d => D.tup [d, valOf kvs d]) = id := funext fun d => rfl
      rw [this, List.map_id]
    rw [e1]
    exact pw_asc asc
def cDrawn : Ct := fun ds S Q _ => ∃ n, ds = [.obj n] ∧ Cup n S ∧ ∀ ts S', DrawnOk ts → Cup n S' → Q (.tup (ts.map tmD)) S'
abbrev dwE (n m : Nat) (t w p : Option D) : Dx.Env := [some (.obj n), some (.obj m), t, w, p]
theorem drawn_ok (ds : List D) (S : Store) (Q : D → Store → Prop) (E : QX) (h : cDrawn ds S Q E) : fs_law_drawn cRoll cSome (bodyEnds Q E) (startE N_law_drawn ds) S := by
  obtain ⟨n, rfl, hc, hq⟩ := h
  have hs := sizeLine_eq
  have z1 : ∀ k : Nat, k ≤ 100 → k ≤ sizeLine := fun k h => by omega
  have hn : n < S.length := by
    obtain ⟨a, b, e⟩ := hc
    exact (List.getElem?_eq_some_iff.mp e).1
  have hc1 : Cup n (S ++ [.dct []]) := by
    obtain ⟨a, b, e⟩ := hc
    exact ⟨a, b, by rw [List.getElem?_append_left hn]; exact e⟩
  have hm1 : (S ++ [Ob.dct []])[S.length]? = some (.dct []) := by simp
  simp only [fs_law_drawn, seqS, setS, dnewF, forS]
  simp [seqS, setS, retS, retN, exprS, nilS, ifS, parS, asgS, bindT, bindTs, bindF, callC, varF, retF, consF, nilF, iteV, truF, truD, notF, andF, orF, andV, orV, notV, chF, chT, bodyEnds, startE, optF, idxF, slcF, intF, noF, newL, tyD, isiT, isiB, lenB, absB, intB, gcdB, tupB, lstB, ltG, leG, gtG, geG, isG, isnG, o2I, isO, getS, addF, subF, mulF, eqG_ii, neG_ii, neG_bb, fdivG, modG, powG, raiseS, wipeE, N_law_drawn]
  generalize S.length = m at hn hm1 ⊢
  refine ⟨n, 6, rfl, hc1, by decide, big4000 (by decide), fun k S1 h0 h1 r1 => ?_⟩
  simp [seqS, setS, retS, retN, exprS, nilS, ifS, parS, asgS, bindT, bindTs, bindF, callC, varF, retF, consF, nilF, iteV, truF, truD, notF, andF, orF, andV, orV, notV, chF, chT, bodyEnds, startE, optF, idxF, slcF, intF, noF, newL, tyD, isiT, isiB, lenB, absB, intB, gcdB, tupB, lstB, ltG, leG, gtG, geG, isG, isnG, o2I, isO, getS, addF, subF, mulF, eqG_ii, neG_ii, neG_bb, fdivG, modG, powG, raiseS, wipeE, rng1]
  refine ⟨by simp [smallB]; omega, ?_⟩
  have hm2 : S1[m]? = some (.dct []) := by rw [r1.same m (by omega)]; exact hm1
  refine forL_inv (fun i τ S' => ∃ kvs t w p, Cup n S' ∧ S'[m]? = some (.dct kvs) ∧ DJ kvs ∧ kvs.length ≤ i ∧ τ = dwE n m t w p) _ 0 ⟨[], none, none, none, r1.cup, hm2, ⟨fun p h => absurd h (by simp), by simp⟩, by simp, rfl⟩ ?_ ?_
  · rintro j d hj τ S2 K ⟨kvs, t, w, p, c2, hk, di, hl, rfl⟩ hK
    refine ⟨trivial, dwE n m (some d) w p, rfl, ?_⟩
    simp [seqS, setS, retS, retN, exprS, nilS, ifS, parS, asgS, bindT, bindTs, bindF, callC, varF, retF, consF, nilF, iteV, truF, truD, notF, andF, orF, andV, orV, notV, chF, chT, bodyEnds, startE, optF, idxF, slcF, intF, noF, newL, tyD, isiT, isiB, lenB, absB, intB, gcdB, tupB, lstB, ltG, leG, gtG, geG, isG, isnG, o2I, isO, getS, addF, subF, mulF, eqG_ii, neG_ii, neG_bb, fdivG, modG, powG, raiseS, wipeE]
    refine ⟨n, 5, rfl, c2, by decide, big4000 (by decide), fun k1 S3 a0 a1 r3 => ?_⟩
    simp [seqS, setS, retS, retN, exprS, nilS, ifS, parS, asgS, bindT, bindTs, bindF, callC, varF, retF, consF, nilF, iteV, truF, truD, notF, andF, orF, andV, orV, notV, chF, chT, bodyEnds, startE, optF, idxF, slcF, intF, noF, newL, tyD, isiT, isiB, lenB, absB, intB, gcdB, tupB, lstB, ltG, leG, gtG, geG, isG, isnG, o2I, isO, getS, addF, subF, mulF, eqG_ii, neG_ii, neG_bb, fdivG, modG, powG, raiseS, wipeE, dputS, z1]
    refine ⟨n, _, rfl, r3.cup, by simp, z1 _ (by simp), fun dv S4 hv r4 => ?_⟩
    obtain ⟨v, rfl, hv6⟩ : ∃ v : Int, dv = .int v ∧ v ∈ vals6 := by
      simp at hv
      rcases hv with rfl | rfl | rfl | rfl | rfl | rfl
      · exact ⟨1, rfl, by decide⟩
      · exact ⟨-1, rfl, by decide⟩
      · exact ⟨2, rfl, by decide⟩
      · exact ⟨-7, rfl, by decide⟩
      · exact ⟨1000, rfl, by decide⟩
      · exact ⟨1001, rfl, by decide⟩
    try simp [seqS, setS, retS, retN, exprS, nilS, ifS, parS, asgS, bindT, bindTs, bindF, callC, varF, retF, consF, nilF, iteV, truF, truD, notF, andF, orF, andV, orV, notV, chF, chT, bodyEnds, startE, optF, idxF, slcF, intF, noF, newL, tyD, isiT, isiB, lenB, absB, intB, gcdB, tupB, lstB, ltG, leG, gtG, geG, isG, isnG, o2I, isO, getS, addF, subF, mulF, eqG_ii, neG_ii, neG_bb, fdivG, modG, powG, raiseS, wipeE]
    refine ⟨n, 5 - k1, rfl, r4.cup, by omega, big4000 (by omega), fun k3 S5 c0 c1 r5 => ?_⟩
    have hm5 : S5[m]? = some (.dct kvs) := by rw [r5.same m (by omega), r4.same m (by omega), r3.same m (by omega)]; exact hk
    have e5 : Dx.keyOf [.int k1, .int k3] = some [.inl k1, .inl k3] := rfl
    try refine ⟨z1 _ (by simp), ?_⟩
    simp only [hm5, e5]
    have hj2 : j < k.toNat := (rngItems_get hj).1
    refine ⟨by omega, ?_⟩
    have hml : m < S5.length := (List.getElem?_eq_some_iff.mp hm5).1
    refine hK _ _ ⟨putD kvs [.inl k1, .inl k3] (.int v), some d, some (.int k1), p, ?_, by rw [List.getElem?_set_self hml], put_DJ di (by omega) (by omega) (by omega) hv6, ?_, rfl⟩
    · obtain ⟨a, b, e⟩ := r5.cup
      exact ⟨a, b, by rw [List.getElem?_set_ne (by omega)]; exact e⟩
    · have := put_len (kvs := kvs) (k := [.inl k1, .inl k3]) (d := .int v)
      omega
  · rintro τ S2 ⟨kvs, t, w, p, c2, hk, di, hl, rfl⟩
    refine ⟨trivial, ?_⟩
    have hl4 : kvs.length ≤ 5 := by simp [rngItems] at hl; omega
    have hfit : fitS (kvs.map fun p => keyT p.1) = true := fit_pairs fun d hd => by
      obtain ⟨i, j, v, rfl, _⟩ := di.key hd
      exact ⟨i, j, rfl⟩
    simp only [retS, biE, bindF, consF, nilF, compF, itE, sortB, varF, retF, List.getElem?_cons_succ, List.getElem?_cons_zero, srcS, hk]
    refine ⟨hfit, fun es p pw => ?_⟩
    obtain ⟨ts, q1, q2⟩ := keys_drawn di hl4 p pw
    have hel : es.length ≤ 5 := by rw [p.length_eq, List.length_map]; exact hl4
    simp only [newL, Bool.false_eq_true, if_false, itsF, getS]
    refine compL_pure (fun _ => true) (fun d => .tup [d, valOf kvs d]) es [] (fun d hd => ⟨dwE n m t w (some d), rfl, fun Q h => h, fun _ Q h => ?_⟩) (by simp [getS]) (by simp; omega) ?_
    · obtain ⟨i, j, v, rfl, _, _, _, _, e⟩ := di.key (p.mem_iff.mp hd)
      have ek : Dx.keyOf [.int i, .int j] = some [.inl i, .inl j] := rfl
      simp [seqS, setS, retS, retN, exprS, nilS, ifS, parS, asgS, bindT, bindTs, bindF, callC, varF, retF, consF, nilF, iteV, truF, truD, notF, andF, orF, andV, orV, notV, chF, chT, bodyEnds, startE, optF, idxF, slcF, intF, noF, newL, tyD, isiT, isiB, lenB, absB, intB, gcdB, tupB, lstB, ltG, leG, gtG, geG, isG, isnG, o2I, isO, getS, addF, subF, mulF, eqG_ii, neG_ii, neG_bb, fdivG, modG, powG, raiseS, wipeE, dgetE, dgetF, hk, Dx.pairD, ek, e, z1]
      simpa [valOf, Dx.pairD, ek, e] using h
    · have ef : es.filter (fun _ => true) = es := by simp
      rw [ef, q1]
      simp [seqS, setS, retS, retN, exprS, nilS, ifS, parS, asgS, bindT, bindTs, bindF, callC, varF, retF, consF, nilF, iteV, truF, truD, notF, andF, orF, andV, orV, notV, chF, chT, bodyEnds, startE, optF, idxF, slcF, intF, noF, newL, tyD, isiT, isiB, lenB, absB, intB, gcdB, tupB, lstB, ltG, leG, gtG, geG, isG, isnG, o2I, isO, getS, addF, subF, mulF, eqG_ii, neG_ii, neG_bb, fdivG, modG, powG, raiseS, wipeE]
      exact hq _ _ q2 c2
end LawX

set_option Elab.async false
set_option linter.all false
set_option maxRecDepth 100000
set_option maxHeartbeats 0
set_option exponentiation.threshold 5000
namespace LawX
open PySem PySem.Spec PyProof.Rows L2 Dx
/-! ### the plain law of lines -/
def rowF (a b : Int) (top : Nat) (ts : List Tm) (j : Nat) : Int := ts.foldl (fun s t => if t.2.1 = j then s + t.2.2 * a ^ t.1 * b ^ (top - t.1) else s) 0
def rowR (p : Rat) (ts : List Tm) (j : Nat) : Rat := ts.foldl (fun s t => if t.2.1 = j then s + (t.2.2 : Rat) * p ^ t.1 else s) 0
def lenT (f : Nat → Int) : Nat → Nat
  | 0 => 0
  | n + 1 => if f n = 0 then lenT f n else n + 1
def cont (f : Nat → Int) (n : Nat) : Nat := (List.range n).foldl (fun g j => Nat.gcd g (f j).natAbs) 0
def primT (f : Nat → Int) (n : Nat) : List Int :=
  if 0 < (f (n - 1)).fdiv (cont f n) then (List.range n).map fun j => (f j).fdiv (cont f n) else ((List.range n).map fun j => (f j).fdiv (cont f n)).map fun x => -x
def topT (ts : List Tm) : Nat := (maxL 0 (ts.map fun t => (t.1 : Int))).toNat
def hiT (ts : List Tm) : Nat := (maxL (-1) (ts.map fun t => (t.2.1 : Int)) + 1).toNat
theorem lenT_le (f : Nat → Int) : ∀ n, lenT f n ≤ n
  | 0 => Nat.le_refl _
  | n + 1 => by
    unfold lenT
    split
    · have := lenT_le f n; omega
    · omega
theorem lenT_nz {f : Nat → Int} : ∀ {n k : Nat}, lenT f n = k + 1 → f k ≠ 0
  | 0, k, h => by simp [lenT] at h
  | n + 1, k, h => by
    unfold lenT at h
    split at h
    · exact lenT_nz h
    · rename_i hz
      cases h
      exact hz
theorem lenT_more {f : Nat → Int} {m : Nat} : ∀ {n : Nat}, m ≤ n → (∀ j, m ≤ j → j < n → f j = 0) → lenT f n = lenT f m
  | 0, h, _ => by
    have : m = 0 := by omega
    rw [this]
  | n + 1, h, hz => by
    by_cases e : m = n + 1
    · rw [e]
    · rw [lenT, if_pos (hz n (by omega) (by omega))]
      exact lenT_more (by omega) fun j h1 h2 => hz j h1 (by omega)
theorem lenT_congr {f g : Nat → Int} : ∀ {n : Nat}, (∀ j, j < n → (f j = 0 ↔ g j = 0)) → lenT f n = lenT g n
  | 0, _ => rfl
  | n + 1, h => by
    unfold lenT
    have e := h n (by omega)
    by_cases z : f n = 0
    · rw [if_pos z, if_pos (e.mp z)]
      exact lenT_congr fun j hj => h j (by omega)
    · rw [if_neg z, if_neg fun q => z (e.mpr q)]
theorem cont_succ (f : Nat → Int) (n : Nat) : cont f (n + 1) = Nat.gcd (cont f n) (f n).natAbs := by
  unfold cont
  rw [List.range_succ, List.foldl_append]
  rfl
theorem cont_mul {k : Nat} {f g : Nat → Int} : ∀ {n : Nat}, (∀ j, j < n → (g j).natAbs = k * (f j).natAbs) → cont g n = k * cont f n
  | 0, _ => by simp [cont]
  | n + 1, h => by
    rw [cont_succ, cont_succ, cont_mul (n := n) fun j hj => h j (by omega), h n (by omega), Nat.gcd_mul_left]
theorem cont_dvd {f : Nat → Int} : ∀ {n j : Nat}, j < n → cont f n ∣ (f j).natAbs
  | n + 1, j, h => by
    rw [cont_succ]
    by_cases e : j = n
    · subst e; exact Nat.gcd_dvd_right _ _
    · exact Nat.dvd_trans (Nat.gcd_dvd_left _ _) (cont_dvd (by omega))
theorem cont_pos {f : Nat → Int} {n j : Nat} (h : j < n) (hz : f j ≠ 0) : 0 < cont f n := by
  have d := cont_dvd (f := f) h
  rcases Nat.eq_zero_or_pos (cont f n) with e | e
  · rw [e] at d
    have := Nat.eq_zero_of_zero_dvd d
    omega
  · exact e
theorem fdiv_ex {x : Int} {g : Nat} (hg : 0 < g) (h : g ∣ x.natAbs) : ∃ q : Int, x = g * q ∧ x.fdiv g = q ∧ x.fdiv (-(g : Int)) = -q := by
  obtain ⟨q, e⟩ := Int.ofNat_dvd_left.mpr h
  refine ⟨q, e, ?_, ?_⟩
  · rw [e, Int.mul_fdiv_cancel_left _ (by omega)]
  · rw [e]
    have : (g : Int) * q = -(g : Int) * (-q) := by rw [Int.neg_mul_neg]
    rw [this, Int.mul_fdiv_cancel_left _ (by omega)]
/-- two rows alike but for a factor have one plain line -/
theorem prim_one {f w : Nat → Int} {A B n : Nat} (hA : 0 < A) (hB : 0 < B) (h : ∀ j, j < n → f j * B = A * w j) (hn : n ≠ 0) (hz : f (n - 1) ≠ 0) :
    primT f n = if 0 < w (n - 1) then (List.range n).map fun j => (w j).fdiv (cont w n) else (List.range n).map fun j => (w j).fdiv (-(cont w n : Int)) := by
  have hl : n - 1 < n := by omega
  have hwz : w (n - 1) ≠ 0 := fun z => by
    have := h (n - 1) hl
    rw [z, Int.mul_zero] at this
    rcases Int.mul_eq_zero.mp this with q | q
    · exact hz q
    · omega
  have gf := cont_pos hl hz
  have gw := cont_pos hl hwz
  have e1 : cont (fun j => f j * B) n = B * cont f n := cont_mul fun j hj => by rw [Int.natAbs_mul, Int.natAbs_natCast, Nat.mul_comm]
  have e2 : cont (fun j => f j * B) n = A * cont w n := cont_mul fun j hj => by
    rw [h j hj, Int.natAbs_mul, Int.natAbs_natCast]
  have e3 : B * cont f n = A * cont w n := e1.symm.trans e2
  have key : ∀ j, j < n → ∃ q : Int, (f j).fdiv (cont f n) = q ∧ (w j).fdiv (cont w n) = q ∧ (w j).fdiv (-(cont w n : Int)) = -q ∧ w j = cont w n * q := fun j hj => by
    obtain ⟨q, q1, q2, q3⟩ := fdiv_ex gf (cont_dvd (f := f) hj)
    obtain ⟨r, r1, r2, r3⟩ := fdiv_ex gw (cont_dvd (f := w) hj)
    have hj2 := h j hj
    rw [q1, r1] at hj2
    have e4 : ((B * cont f n : Nat) : Int) * q = ((A * cont w n : Nat) : Int) * r := by
      rw [Int.natCast_mul, Int.natCast_mul]
      have a1 : (B : Int) * (cont f n) * q = cont f n * q * B := by rw [Int.mul_comm (B : Int), Int.mul_assoc, Int.mul_assoc, Int.mul_comm (B : Int)]
      rw [a1, hj2, Int.mul_assoc]
    rw [e3] at e4
    have hp : ((A * cont w n : Nat) : Int) ≠ 0 := by
      have := Nat.mul_pos hA gw
      omega
    have e5 : q = r := Int.eq_of_mul_eq_mul_left hp e4
    subst e5
    exact ⟨q, q2, r2, r3, r1⟩
  obtain ⟨ql, l1, l2, l3, l4⟩ := key (n - 1) hl
  unfold primT
  rw [l1]
  have sg : (0 < ql) ↔ (0 < w (n - 1)) := by
    rw [l4]
    constructor
    · intro hq; exact Int.mul_pos (by omega) hq
    · intro hq
      rcases Int.lt_trichotomy ql 0 with z | z | z
      · have := Int.mul_neg_of_pos_of_neg (show (0 : Int) < cont w n by omega) z
        omega
      · rw [z] at hq; simp at hq
      · exact z
  have c1 : ((List.range n).map fun j => (f j).fdiv (cont f n)) = (List.range n).map fun j => (w j).fdiv (cont w n) := List.map_congr_left fun j hj => by
    obtain ⟨q, a, b, _⟩ := key j (List.mem_range.mp hj)
    rw [a, b]
  have c2 : (((List.range n).map fun j => (f j).fdiv (cont f n)).map fun x => -x) = (List.range n).map fun j => (w j).fdiv (-(cont w n : Int)) := by
    rw [List.map_map]
    exact List.map_congr_left fun j hj => by
      obtain ⟨q, a, _, b, _⟩ := key j (List.mem_range.mp hj)
      simp only [Function.comp]
      rw [a, b]
  by_cases hq : 0 < ql
  · rw [if_pos hq, if_pos (sg.mp hq), c1]
  · rw [if_neg hq, if_neg (fun z => hq (sg.mpr z)), c2]
theorem rowR_snoc {p : Rat} {ts : List Tm} {t : Tm} {j : Nat} : rowR p (ts ++ [t]) j = if t.2.1 = j then rowR p ts j + (t.2.2 : Rat) * p ^ t.1 else rowR p ts j := by
  unfold rowR
  rw [List.foldl_append]
  rfl
theorem rowF_snoc {a b : Int} {top : Nat} {ts : List Tm} {t : Tm} {j : Nat} : rowF a b top (ts ++ [t]) j = if t.2.1 = j then rowF a b top ts j + t.2.2 * a ^ t.1 * b ^ (top - t.1) else rowF a b top ts j := by
  unfold rowF
  rw [List.foldl_append]
  rfl
theorem list_snoc_ind {P : List Tm → Prop} (h0 : P []) (hs : ∀ l t, P l → P (l ++ [t])) : ∀ l, P l := by
  intro l
  have : ∀ r : List Tm, P r.reverse := by
    intro r
    induction r with
    | nil => exact h0
    | cons t r ih => rw [List.reverse_cons]; exact hs _ _ ih
  rw [← List.reverse_reverse l]
  exact this _
theorem rat_den (p : Rat) : p * ((p.den : Int) : Rat) = (p.num : Rat) := by
  have h : mkRat p.num p.den * mkRat (p.den : Int) 1 = mkRat p.num 1 := by
    rw [Rat.mkRat_mul_mkRat, Rat.mkRat_eq_iff (by have := p.den_pos; omega) (by omega)]
    simp
  rw [Rat.mkRat_self, Rat.mkRat_one, Rat.mkRat_one] at h
  exact h
theorem rat_pow_add (q : Rat) (a : Nat) : ∀ b : Nat, q ^ (a + b) = q ^ a * q ^ b
  | 0 => by simp [Rat.pow_zero, Rat.mul_one]
  | b + 1 => by rw [← Nat.add_assoc, Rat.pow_succ, Rat.pow_succ, rat_pow_add q a b, Rat.mul_assoc]
theorem num_den_pow (p : Rat) : ∀ i : Nat, p ^ i * ((p.den : Int) : Rat) ^ i = ((p.num : Int) : Rat) ^ i
  | 0 => by simp
  | i + 1 => by
    have e := rat_den p
    have ih := num_den_pow p i
    rw [Rat.pow_succ, Rat.pow_succ, Rat.pow_succ, ← ih, ← e]
    grind
theorem rowF_R {p : Rat} {top : Nat} (j : Nat) : ∀ ts : List Tm, (∀ t ∈ ts, t.1 ≤ top) → ((rowF p.num p.den top ts j : Int) : Rat) = ((p.den : Int) : Rat) ^ top * rowR p ts j := by
  refine list_snoc_ind ?_ ?_
  · intro _
    simp [rowF, rowR]
  · intro l t ih h
    have ih := ih fun u hu => h u (List.mem_append_left _ hu)
    have ht := h t (by simp)
    rw [rowF_snoc, rowR_snoc]
    by_cases e : t.2.1 = j
    · rw [if_pos e, if_pos e]
      have n1 := num_den_pow p t.1
      have e2 : ((p.den : Int) : Rat) ^ top = ((p.den : Int) : Rat) ^ t.1 * ((p.den : Int) : Rat) ^ (top - t.1) := by
        rw [← rat_pow_add]
        congr 1
        omega
      have e3 : ((rowF p.num p.den top l j + t.2.2 * p.num ^ t.1 * (p.den : Int) ^ (top - t.1) : Int) : Rat) = (rowF p.num p.den top l j : Rat) + (t.2.2 : Rat) * (p.num : Rat) ^ t.1 * ((p.den : Int) : Rat) ^ (top - t.1) := by
        rw [Rat.intCast_add, Rat.intCast_mul, Rat.intCast_mul, Rat.intCast_pow, Rat.intCast_pow]
      rw [e3, ih, ← n1, e2]
      grind
    · rw [if_neg e, if_neg e]
      exact ih
end LawX

set_option Elab.async false
set_option linter.all false
set_option maxRecDepth 100000
set_option maxHeartbeats 0
set_option exponentiation.threshold 5000
namespace LawX
open PySem PySem.Spec PyProof.Rows L2 Dx
/-! ### rows -/
def rowI (f : Nat → Int) (n : Nat) : List D := (List.range n).map fun j => .int (f j)
theorem rowI_len {f : Nat → Int} {n : Nat} : (rowI f n).length = n := by simp [rowI]
theorem rowI_last {f : Nat → Int} {n : Nat} : L2.atI (rowI f (n + 1)) (-1) = some (.int (f n)) := by
  unfold L2.atI L2.ixN
  rw [rowI_len]
  have e : (-1 + ((n + 1 : Nat) : Int)).toNat = n := by omega
  simp
  rw [if_pos (by omega)]
  have e2 : (-1 + ((n : Int) + 1)).toNat = n := by omega
  simp [e2, rowI]
theorem cut_last {xs : List D} {x : D} : Dx.cutD (xs ++ [x]) none (some (-1)) = xs := by
  unfold Dx.cutD HT.sIx
  have e : ((-1 : Int) + ((xs ++ [x]).length : Int)).toNat = xs.length := by simp; omega
  have h : ¬ ((-1 : Int) + ((xs ++ [x]).length : Int) < 0) := by simp; omega
  simp only [List.drop_zero, Nat.sub_zero]
  have e3 : (-1 + ((xs.length : Int) + 1)).toNat = xs.length := by omega
  simp [e3]
theorem rowI_succ {f : Nat → Int} {n : Nat} : rowI f (n + 1) = rowI f n ++ [.int (f n)] := by
  unfold rowI
  rw [List.range_succ, List.map_append]
  rfl
theorem rowI_cut {f : Nat → Int} {n : Nat} : Dx.cutD (rowI f (n + 1)) none (some (-1)) = rowI f n := by
  rw [rowI_succ, cut_last]
theorem rowI_dat (f : Nat → Int) : ∀ n, datDs (rowI f n) = true ∧ depDs (rowI f n) = 0 := by
  intro n
  unfold rowI
  induction (List.range n) with
  | nil => exact ⟨rfl, rfl⟩
  | cons a l ih => simp only [List.map_cons, datDs, depDs, datD, depD, ih.1, ih.2, Bool.true_and]; exact ⟨trivial, rfl⟩
theorem rowI_ne {f : Nat → Int} {n : Nat} : eqDs (rowI f n) [] = decide (n = 0) := by
  cases n with
  | zero => rfl
  | succ n => simp [rowI, List.range_succ_eq_map, eqDs]
theorem rowI_congr {f g : Nat → Int} {n : Nat} (h : ∀ j, j < n → f j = g j) : rowI f n = rowI g n := List.map_congr_left fun j hj => by rw [h j (List.mem_range.mp hj)]
def cTrim : Ct := fun ds S Q _ => ∃ (d : D) (f : Nat → Int) (n : Nat), ds = [d] ∧ getS S d = .lst (rowI f n) ∧ n ≤ 1000 ∧ Q (.tup (rowI f (lenT f n))) S
theorem trim_ok (ds : List D) (S : Store) (Q : D → Store → Prop) (E : QX) (h : cTrim ds S Q E) : fstrimmed (bodyEnds Q E) (startE Ntrimmed ds) S := by
  obtain ⟨d, f, n, rfl, hd, hn, hq⟩ := h
  have hs := sizeLine_eq
  have z1 : ∀ k : Nat, k ≤ 100 → k ≤ sizeLine := fun k h => by omega
  simp only [fstrimmed, seqS, setS]
  simp only [biE, bindF, consF, nilF, varF, retF, startE, Ntrimmed, List.map_cons, List.map_nil, List.length_cons, List.length_nil, List.replicate, List.cons_append, List.nil_append, List.getElem?_cons_zero, tupB, hd]
  show whileS _ _ _ _ S
  refine ⟨fun m τ S' => S' = S ∧ m ≤ n ∧ lenT f m = lenT f n ∧ τ = [some d, some (.tup (rowI f m))], ⟨n, rfl, Nat.le_refl _, rfl, rfl⟩, ?_⟩
  rintro m τ S' ⟨rfl, hm, hl, rfl⟩
  have hdt := rowI_dat f m
  simp only [andF, cmpT, bindF, varF, List.getElem?_cons_succ, List.getElem?_cons_zero, tupE, nilF, retF]
  refine ⟨by simp, ?_⟩
  refine neG_of (by simp only [datD]; exact hdt.1) rfl (by simp only [depD, hdt.2]; omega) (by simp [depD, depDs]) ?_
  simp only [eqD, rowI_ne]
  cases m with
  | zero =>
    simp [seqS, setS, retS, retN, exprS, nilS, ifS, parS, asgS, bindT, bindTs, bindF, callC, varF, retF, consF, nilF, iteV, truF, truD, notF, andF, orF, andV, orV, notV, chF, chT, bodyEnds, startE, optF, idxF, slcF, intF, noF, newL, tyD, isiT, isiB, lenB, absB, intB, gcdB, tupB, lstB, ltG, leG, gtG, geG, isG, isnG, o2I, isO, getS, addF, subF, mulF, eqG_ii, neG_ii, neG_bb, fdivG, modG, powG, raiseS, wipeE]
    rw [← hl] at hq
    exact hq
  | succ k =>
    simp [seqS, setS, retS, retN, exprS, nilS, ifS, parS, asgS, bindT, bindTs, bindF, callC, varF, retF, consF, nilF, iteV, truF, truD, notF, andF, orF, andV, orV, notV, chF, chT, bodyEnds, startE, optF, idxF, slcF, intF, noF, newL, tyD, isiT, isiB, lenB, absB, intB, gcdB, tupB, lstB, ltG, leG, gtG, geG, isG, isnG, o2I, isO, getS, addF, subF, mulF, eqG_ii, neG_ii, neG_bb, fdivG, modG, powG, raiseS, wipeE, rowI_last, rowI_cut]
    by_cases h0 : f k = 0
    · simp [h0]
      exact ⟨k, by omega, by omega, by rw [← hl]; simp [lenT, h0]⟩
    · simp [h0]
      have e : lenT f (k + 1) = k + 1 := by simp [lenT, h0]
      rw [← hl, e] at hq
      exact hq
def cCont : Ct := fun ds S Q _ => ∃ (f : Nat → Int) (n : Nat), ds = [.tup (rowI f n)] ∧ n ≤ 1000 ∧ Q (.int (cont f n : Nat)) S
theorem rowI_get {f : Nat → Int} {n j : Nat} {d : D} (h : (rowI f n)[j]? = some d) : j < n ∧ d = .int (f j) := by
  unfold rowI at h
  rw [List.getElem?_map] at h
  obtain ⟨k, h1, rfl⟩ := Option.map_eq_some_iff.mp h
  have h2 := List.getElem?_eq_some_iff.mp h1
  obtain ⟨h3, h4⟩ := h2
  rw [List.getElem_range] at h4
  subst h4
  exact ⟨by simpa using h3, rfl⟩
theorem cont_ok (ds : List D) (S : Store) (Q : D → Store → Prop) (E : QX) (h : cCont ds S Q E) : fscontent (bodyEnds Q E) (startE Ncontent ds) S := by
  obtain ⟨f, n, rfl, hn, hq⟩ := h
  simp only [fscontent, seqS, setS, forS]
  simp [seqS, setS, retS, retN, exprS, nilS, ifS, parS, asgS, bindT, bindTs, bindF, callC, varF, retF, consF, nilF, iteV, truF, truD, notF, andF, orF, andV, orV, notV, chF, chT, bodyEnds, startE, optF, idxF, slcF, intF, noF, newL, tyD, isiT, isiB, lenB, absB, intB, gcdB, tupB, lstB, ltG, leG, gtG, geG, isG, isnG, o2I, isO, getS, addF, subF, mulF, eqG_ii, neG_ii, neG_bb, fdivG, modG, powG, raiseS, wipeE, Ncontent, itsF]
  refine forL_inv (fun i τ S' => S' = S ∧ ∃ t, τ = [some (.tup (rowI f n)), some (.int (cont f i : Nat)), t]) _ 0 ⟨rfl, none, rfl⟩ ?_ ?_
  · rintro j d hj τ S' K ⟨rfl, t, rfl⟩ hK
    rw [Nat.zero_add] at hK ⊢
    obtain ⟨hjn, rfl⟩ := rowI_get hj
    refine ⟨trivial, [some (.tup (rowI f n)), some (.int (cont f j : Nat)), some (.int (f j))], rfl, ?_⟩
    simp [seqS, setS, retS, retN, exprS, nilS, ifS, parS, asgS, bindT, bindTs, bindF, callC, varF, retF, consF, nilF, iteV, truF, truD, notF, andF, orF, andV, orV, notV, chF, chT, bodyEnds, startE, optF, idxF, slcF, intF, noF, newL, tyD, isiT, isiB, lenB, absB, intB, gcdB, tupB, lstB, ltG, leG, gtG, geG, isG, isnG, o2I, isO, getS, addF, subF, mulF, eqG_ii, neG_ii, neG_bb, fdivG, modG, powG, raiseS, wipeE]
    refine hK _ _ ⟨rfl, some (.int (f j)), ?_⟩
    rw [cont_succ]
  · rintro τ S' ⟨rfl, t, rfl⟩
    refine ⟨trivial, ?_⟩
    rw [rowI_len, Nat.zero_add]
    exact hq
def cLsn : Ct := fun ds S Q _ => ∃ (f : Nat → Int) (n : Nat), ds = [.tup (rowI f n)] ∧ n ≤ 1000 ∧ n ≠ 0 ∧ f (n - 1) ≠ 0 ∧ (f (n - 1)).natAbs < 2 ^ 4000 ∧ Q (.tup (rowI (fun j => (f j).fdiv (cont f n)) n)) S
theorem cont_div {f : Nat → Int} {n : Nat} (h0 : n ≠ 0) (hz : f (n - 1) ≠ 0) (hb : (f (n - 1)).natAbs < 2 ^ 4000) (x : Int) : cDiv x (cont f n : Nat) = true := by
  have hp := cont_pos (f := f) (n := n) (j := n - 1) (by omega) hz
  have hd := Nat.le_of_dvd (by omega) (cont_dvd (f := f) (n := n) (j := n - 1) (by omega))
  have hlt : cont f n < 2 ^ 4000 := by omega
  have hlog : (cont f n).log2 < 9000 := Nat.lt_trans ((Nat.log2_lt (by omega)).mpr hlt) (by decide)
  have h1 : ¬ (((cont f n : Nat) : Int) = 0) := by omega
  unfold cDiv
  simp [h1, hlog]
  omega
theorem lsn_ok (ds : List D) (S : Store) (Q : D → Store → Prop) (E : QX) (h : cLsn ds S Q E) : fslessened cCont (bodyEnds Q E) (startE Nlessened ds) S := by
  obtain ⟨f, n, rfl, hn, h0, hz, hb, hq⟩ := h
  have hs := sizeLine_eq
  simp [fslessened, seqS, setS, retS, retN, exprS, nilS, ifS, parS, asgS, bindT, bindTs, bindF, callC, varF, retF, consF, nilF, iteV, truF, truD, notF, andF, orF, andV, orV, notV, chF, chT, bodyEnds, startE, optF, idxF, slcF, intF, noF, newL, tyD, isiT, isiB, lenB, absB, intB, gcdB, tupB, lstB, ltG, leG, gtG, geG, isG, isnG, o2I, isO, getS, addF, subF, mulF, eqG_ii, neG_ii, neG_bb, fdivG, modG, powG, raiseS, wipeE, Nlessened]
  refine ⟨f, n, rfl, hn, ?_⟩
  refine compF_val (rowI f n) (fun _ => True) (fun _ => true) (fun d => match d with | .int i => .int (i.fdiv (cont f n : Nat)) | d => d) (fun Q h => ?_) trivial (by rw [rowI_len]; omega) (fun d hd => ?_) ?_
  · simp [seqS, setS, retS, retN, exprS, nilS, ifS, parS, asgS, bindT, bindTs, bindF, callC, varF, retF, consF, nilF, iteV, truF, truD, notF, andF, orF, andV, orV, notV, chF, chT, bodyEnds, startE, optF, idxF, slcF, intF, noF, newL, tyD, isiT, isiB, lenB, absB, intB, gcdB, tupB, lstB, ltG, leG, gtG, geG, isG, isnG, o2I, isO, getS, addF, subF, mulF, eqG_ii, neG_ii, neG_bb, fdivG, modG, powG, raiseS, wipeE, itsF]; exact h
  · obtain ⟨j, hj, rfl⟩ := List.mem_map.mp hd
    refine ⟨_, rfl, fun Q h => h, fun _ Q h => ?_⟩
    simp [seqS, setS, retS, retN, exprS, nilS, ifS, parS, asgS, bindT, bindTs, bindF, callC, varF, retF, consF, nilF, iteV, truF, truD, notF, andF, orF, andV, orV, notV, chF, chT, bodyEnds, startE, optF, idxF, slcF, intF, noF, newL, tyD, isiT, isiB, lenB, absB, intB, gcdB, tupB, lstB, ltG, leG, gtG, geG, isG, isnG, o2I, isO, getS, addF, subF, mulF, eqG_ii, neG_ii, neG_bb, fdivG, modG, powG, raiseS, wipeE, cont_div h0 hz hb]
    exact h
  · have ef : (rowI f n).filter (fun _ => true) = rowI f n := by simp
    rw [ef]
    have em : (rowI f n).map (fun d => match d with | .int i => D.int (i.fdiv (cont f n : Nat)) | d => d) = rowI (fun j => (f j).fdiv (cont f n)) n := by
      unfold rowI
      rw [List.map_map]
      rfl
    rw [em]
    simp [seqS, setS, retS, retN, exprS, nilS, ifS, parS, asgS, bindT, bindTs, bindF, callC, varF, retF, consF, nilF, iteV, truF, truD, notF, andF, orF, andV, orV, notV, chF, chT, bodyEnds, startE, optF, idxF, slcF, intF, noF, newL, tyD, isiT, isiB, lenB, absB, intB, gcdB, tupB, lstB, ltG, leG, gtG, geG, isG, isnG, o2I, isO, getS, addF, subF, mulF, eqG_ii, neG_ii, neG_bb, fdivG, modG, powG, raiseS, wipeE]
    exact hq
def cPrim : Ct := fun ds S Q _ => ∃ (f : Nat → Int) (n : Nat), ds = [.tup (rowI f n)] ∧ n ≤ 1000 ∧ n ≠ 0 ∧ f (n - 1) ≠ 0 ∧ (f (n - 1)).natAbs < 2 ^ 4000 ∧ Q (.tup ((primT f n).map .int)) S
theorem prim_ok (ds : List D) (S : Store) (Q : D → Store → Prop) (E : QX) (h : cPrim ds S Q E) : fsprimitive cLsn (bodyEnds Q E) (startE Nprimitive ds) S := by
  obtain ⟨f, n, rfl, hn, h0, hz, hb, hq⟩ := h
  have hs := sizeLine_eq
  obtain ⟨k, rfl⟩ : ∃ k, n = k + 1 := ⟨n - 1, by omega⟩
  simp [fsprimitive, seqS, setS, retS, retN, exprS, nilS, ifS, parS, asgS, bindT, bindTs, bindF, callC, varF, retF, consF, nilF, iteV, truF, truD, notF, andF, orF, andV, orV, notV, chF, chT, bodyEnds, startE, optF, idxF, slcF, intF, noF, newL, tyD, isiT, isiB, lenB, absB, intB, gcdB, tupB, lstB, ltG, leG, gtG, geG, isG, isnG, o2I, isO, getS, addF, subF, mulF, eqG_ii, neG_ii, neG_bb, fdivG, modG, powG, raiseS, wipeE, Nprimitive]
  refine ⟨f, k + 1, rfl, hn, h0, hz, hb, ?_⟩
  simp only [rowI_last]
  have e1 : ((List.range (k + 1)).map (fun j => (f j).fdiv (cont f (k + 1)))).map D.int = rowI (fun j => (f j).fdiv (cont f (k + 1))) (k + 1) := by
    unfold rowI
    rw [List.map_map]
    rfl
  by_cases hp : 0 < (f k).fdiv (cont f (k + 1))
  · have e : (primT f (k + 1)).map D.int = rowI (fun j => (f j).fdiv (cont f (k + 1))) (k + 1) := by
      unfold primT
      rw [if_pos (by simpa using hp), ← e1]
    rw [e] at hq
    simp [hp, seqS, setS, retS, retN, exprS, nilS, ifS, parS, asgS, bindT, bindTs, bindF, callC, varF, retF, consF, nilF, iteV, truF, truD, notF, andF, orF, andV, orV, notV, chF, chT, bodyEnds, startE, optF, idxF, slcF, intF, noF, newL, tyD, isiT, isiB, lenB, absB, intB, gcdB, tupB, lstB, ltG, leG, gtG, geG, isG, isnG, o2I, isO, getS, addF, subF, mulF, eqG_ii, neG_ii, neG_bb, fdivG, modG, powG, raiseS, wipeE]
    exact hq
  · simp [hp, seqS, setS, retS, retN, exprS, nilS, ifS, parS, asgS, bindT, bindTs, bindF, callC, varF, retF, consF, nilF, iteV, truF, truD, notF, andF, orF, andV, orV, notV, chF, chT, bodyEnds, startE, optF, idxF, slcF, intF, noF, newL, tyD, isiT, isiB, lenB, absB, intB, gcdB, tupB, lstB, ltG, leG, gtG, geG, isG, isnG, o2I, isO, getS, addF, subF, mulF, eqG_ii, neG_ii, neG_bb, fdivG, modG, powG, raiseS, wipeE]
    refine compF_val (rowI (fun j => (f j).fdiv (cont f (k + 1))) (k + 1)) (fun _ => True) (fun _ => true) (fun d => match d with | .int i => .int (-i) | d => d) (fun Q h => ?_) trivial (by rw [rowI_len]; omega) (fun d hd => ?_) ?_
    · simp [seqS, setS, retS, retN, exprS, nilS, ifS, parS, asgS, bindT, bindTs, bindF, callC, varF, retF, consF, nilF, iteV, truF, truD, notF, andF, orF, andV, orV, notV, chF, chT, bodyEnds, startE, optF, idxF, slcF, intF, noF, newL, tyD, isiT, isiB, lenB, absB, intB, gcdB, tupB, lstB, ltG, leG, gtG, geG, isG, isnG, o2I, isO, getS, addF, subF, mulF, eqG_ii, neG_ii, neG_bb, fdivG, modG, powG, raiseS, wipeE, itsF]; exact h
    · obtain ⟨j, hj, rfl⟩ := List.mem_map.mp hd
      refine ⟨_, rfl, fun Q h => h, fun _ Q h => ?_⟩
      simp [seqS, setS, retS, retN, exprS, nilS, ifS, parS, asgS, bindT, bindTs, bindF, callC, varF, retF, consF, nilF, iteV, truF, truD, notF, andF, orF, andV, orV, notV, chF, chT, bodyEnds, startE, optF, idxF, slcF, intF, noF, newL, tyD, isiT, isiB, lenB, absB, intB, gcdB, tupB, lstB, ltG, leG, gtG, geG, isG, isnG, o2I, isO, getS, addF, subF, mulF, eqG_ii, neG_ii, neG_bb, fdivG, modG, powG, raiseS, wipeE]
      exact h
    · have ef : (rowI (fun j => (f j).fdiv (cont f (k + 1))) (k + 1)).filter (fun _ => true) = rowI (fun j => (f j).fdiv (cont f (k + 1))) (k + 1) := by simp
      rw [ef]
      have em : (rowI (fun j => (f j).fdiv (cont f (k + 1))) (k + 1)).map (fun d => match d with | .int i => D.int (-i) | d => d) = (primT f (k + 1)).map D.int := by
        unfold primT
        rw [if_neg (by simpa using hp)]
        unfold rowI
        rw [List.map_map, List.map_map, List.map_map]
        rfl
      rw [em]
      simp [seqS, setS, retS, retN, exprS, nilS, ifS, parS, asgS, bindT, bindTs, bindF, callC, varF, retF, consF, nilF, iteV, truF, truD, notF, andF, orF, andV, orV, notV, chF, chT, bodyEnds, startE, optF, idxF, slcF, intF, noF, newL, tyD, isiT, isiB, lenB, absB, intB, gcdB, tupB, lstB, ltG, leG, gtG, geG, isG, isnG, o2I, isO, getS, addF, subF, mulF, eqG_ii, neG_ii, neG_bb, fdivG, modG, powG, raiseS, wipeE]
      exact hq
/-! ### the greatest power of y -/
def cHigh : Ct := fun ds S Q _ => ∃ ts : List Tm, ds = [.tup (ts.map tmD)] ∧ ts.length ≤ 100 ∧ Q (.int (maxL (-1) (ts.map fun t => (t.2.1 : Int)))) S
theorem high_ok (ds : List D) (S : Store) (Q : D → Store → Prop) (E : QX) (h : cHigh ds S Q E) : fshigh_y (bodyEnds Q E) (startE Nhigh_y ds) S := by
  obtain ⟨ts, rfl, hl, hq⟩ := h
  have hs := sizeLine_eq
  have z1 : ∀ k : Nat, k ≤ 100 → k ≤ sizeLine := fun k h => by omega
  simp [fshigh_y, seqS, setS, retS, retN, exprS, nilS, ifS, parS, asgS, bindT, bindTs, bindF, callC, varF, retF, consF, nilF, iteV, truF, truD, notF, andF, orF, andV, orV, notV, chF, chT, bodyEnds, startE, optF, idxF, slcF, intF, noF, newL, tyD, isiT, isiB, lenB, absB, intB, gcdB, tupB, lstB, ltG, leG, gtG, geG, isG, isnG, o2I, isO, getS, addF, subF, mulF, eqG_ii, neG_ii, neG_bb, fdivG, modG, powG, raiseS, wipeE, Nhigh_y, z1]
  refine compF_val (ts.map tmD) (fun _ => True) (fun _ => true) (fun d => .int ((tmOf d).2.1 : Int)) (fun Q h => ?_) trivial (by simp; omega) (fun d hd => ?_) ?_
  · simp [seqS, setS, retS, retN, exprS, nilS, ifS, parS, asgS, bindT, bindTs, bindF, callC, varF, retF, consF, nilF, iteV, truF, truD, notF, andF, orF, andV, orV, notV, chF, chT, bodyEnds, startE, optF, idxF, slcF, intF, noF, newL, tyD, isiT, isiB, lenB, absB, intB, gcdB, tupB, lstB, ltG, leG, gtG, geG, isG, isnG, o2I, isO, getS, addF, subF, mulF, eqG_ii, neG_ii, neG_bb, fdivG, modG, powG, raiseS, wipeE, itsF]; exact h
  · obtain ⟨t, ht, rfl⟩ := List.mem_map.mp hd
    refine ⟨_, rfl, fun Q h => h, fun _ Q h => ?_⟩
    rw [tmOf_tm] at h
    simp [seqS, setS, retS, retN, exprS, nilS, ifS, parS, asgS, bindT, bindTs, bindF, callC, varF, retF, consF, nilF, iteV, truF, truD, notF, andF, orF, andV, orV, notV, chF, chT, bodyEnds, startE, optF, idxF, slcF, intF, noF, newL, tyD, isiT, isiB, lenB, absB, intB, gcdB, tupB, lstB, ltG, leG, gtG, geG, isG, isnG, o2I, isO, getS, addF, subF, mulF, eqG_ii, neG_ii, neG_bb, fdivG, modG, powG, raiseS, wipeE, L2.atI, L2.ixN]
    exact h
  · have ef : (ts.map tmD).filter (fun _ => true) = ts.map tmD := by simp
    rw [ef, map_tm (g := fun t => .int (t.2.1 : Int)) fun t => by rw [tmOf_tm]]
    simp [seqS, setS, retS, retN, exprS, nilS, ifS, parS, asgS, bindT, bindTs, bindF, callC, varF, retF, consF, nilF, iteV, truF, truD, notF, andF, orF, andV, orV, notV, chF, chT, bodyEnds, startE, optF, idxF, slcF, intF, noF, newL, tyD, isiT, isiB, lenB, absB, intB, gcdB, tupB, lstB, ltG, leG, gtG, geG, isG, isnG, o2I, isO, getS, addF, subF, mulF, eqG_ii, neG_ii, neG_bb, fdivG, modG, powG, raiseS, wipeE]
    refine ⟨by omega, ?_⟩
    have e2 : allSome asInt (.int (-1) :: ts.map fun t : Tm => D.int (t.2.1 : Int)) = some (-1 :: ts.map fun t => (t.2.1 : Int)) := by
      simp [allSome, asInt, allInt_map]
    have e3 : ∀ xs : List D, allSome asInt xs = some (-1 :: ts.map fun t => (t.2.1 : Int)) → maxB [.lst xs] [some (.tup (ts.map tmD)), none, none] S (fun d S' => Q d S') (fun x S' => E x S') := fun xs h => by
      unfold maxB optF
      simp only [getS, h]
      exact hq
    exact e3 _ e2
end LawX

set_option Elab.async false
set_option linter.all false
set_option maxRecDepth 100000
set_option maxHeartbeats 0
set_option exponentiation.threshold 5000
namespace LawX
open PySem PySem.Spec PyProof.Rows L2 Dx
theorem i0 {x : D} {as : List D} : L2.atI (x :: as) 0 = some x := by simp [L2.atI, L2.ixN]
theorem i1 {x a : D} {as : List D} : L2.atI (x :: a :: as) 1 = some a := by
  unfold L2.atI L2.ixN
  rw [if_pos (by omega), if_pos (by simp; omega)]
  rfl
theorem set_rowI {f : Nat → Int} {n j : Nat} {v : Int} : (rowI f n).set j (.int v) = rowI (fun i => if i = j then v else f i) n := by
  apply List.ext_getElem?
  intro i
  by_cases e : i = j
  · subst e
    by_cases h : i < n
    · rw [List.getElem?_set_self (by rw [rowI_len]; exact h)]
      simp [rowI, h]
    · rw [List.getElem?_eq_none (by simp [rowI]; omega), List.getElem?_eq_none (by simp [rowI]; omega)]
  · rw [List.getElem?_set_ne (fun z => e z.symm)]
    unfold rowI
    rw [List.getElem?_map, List.getElem?_map]
    by_cases h : i < n
    · rw [List.getElem?_range h]
      simp [e]
    · rw [List.getElem?_eq_none (by simp; omega)]
      rfl
theorem top_le {ts : List Tm} (h : ∀ t ∈ ts, TmOk t) : topT ts ≤ 4 ∧ (∀ t ∈ ts, t.1 ≤ topT ts) ∧ ((topT ts : Nat) : Int) = maxL 0 (ts.map fun t => (t.1 : Int)) := by
  obtain ⟨a1, a2, a3⟩ := maxL_ge (ts.map fun t => (t.1 : Int)) 0
  have e : ((topT ts : Nat) : Int) = maxL 0 (ts.map fun t => (t.1 : Int)) := Int.toNat_of_nonneg a1
  refine ⟨?_, fun t ht => ?_, e⟩
  · rcases a3 with q | q
    · unfold topT; rw [q]; decide
    · obtain ⟨t, ht, q⟩ := List.mem_map.mp q
      have := (h t ht).1
      omega
  · have := a2 _ (List.mem_map.mpr ⟨t, ht, rfl⟩)
    omega
theorem hi_le {ts : List Tm} (h : ∀ t ∈ ts, TmOk t) : hiT ts ≤ 5 ∧ (∀ t ∈ ts, t.2.1 < hiT ts) ∧ ((hiT ts : Nat) : Int) = maxL (-1) (ts.map fun t => (t.2.1 : Int)) + 1 := by
  obtain ⟨a1, a2, a3⟩ := maxL_ge (ts.map fun t => (t.2.1 : Int)) (-1)
  have e : ((hiT ts : Nat) : Int) = maxL (-1) (ts.map fun t => (t.2.1 : Int)) + 1 := Int.toNat_of_nonneg (by omega)
  refine ⟨?_, fun t ht => ?_, e⟩
  · rcases a3 with q | q
    · unfold hiT; rw [q]; decide
    · obtain ⟨t, ht, q⟩ := List.mem_map.mp q
      have := (h t ht).1
      omega
  · have := a2 _ (List.mem_map.mpr ⟨t, ht, rfl⟩)
    omega
theorem take_snoc {ts : List Tm} {j : Nat} {t : Tm} (h : ts[j]? = some t) : ts.take (j + 1) = ts.take j ++ [t] := by rw [List.take_add_one, h]; rfl
theorem term_bd {a b : Int} {t : Tm} {top : Nat} (ht : TmOk t) (ha : a.natAbs < 2 ^ 4) (hb : b.natAbs < 2 ^ 4) (h4 : top ≤ 4) : (t.2.2 * a ^ t.1).natAbs ≤ 2 ^ 40 ∧ (t.2.2 * a ^ t.1 * b ^ (top - t.1)).natAbs ≤ 2 ^ 60 := by
  obtain ⟨h1, h2, _⟩ := ht
  have p1 : (a ^ t.1).natAbs ≤ 2 ^ 16 := Nat.le_trans (pow_bd ha) (pow_mono (by omega))
  have p2 : (b ^ (top - t.1)).natAbs ≤ 2 ^ 16 := Nat.le_trans (pow_bd hb) (pow_mono (by omega))
  have q1 : (t.2.2 * a ^ t.1).natAbs ≤ 2 ^ 40 := by
    rw [Int.natAbs_mul]
    exact Nat.le_trans (Nat.mul_le_mul h2 p1) (by decide)
  refine ⟨q1, ?_⟩
  rw [Int.natAbs_mul]
  exact Nat.le_trans (Nat.mul_le_mul q1 p2) (by decide)
theorem rowF_bd {a b : Int} {top : Nat} (j : Nat) (ha : a.natAbs < 2 ^ 4) (hb : b.natAbs < 2 ^ 4) (h4 : top ≤ 4) : ∀ ts : List Tm, (∀ t ∈ ts, TmOk t) → (rowF a b top ts j).natAbs ≤ ts.length * 2 ^ 60 := by
  refine list_snoc_ind ?_ ?_
  · intro _; simp [rowF]
  · intro l t ih h
    have ih := ih fun u hu => h u (List.mem_append_left _ hu)
    have ht := (term_bd (h t (by simp)) ha hb h4).2
    rw [rowF_snoc, List.length_append]
    simp only [List.length_cons, List.length_nil]
    split
    · rw [Nat.add_mul, Nat.zero_add, Nat.one_mul]
      exact Nat.le_trans (Int.natAbs_add_le _ _) (Nat.add_le_add ih ht)
    · rw [Nat.add_mul, Nat.zero_add, Nat.one_mul]
      exact Nat.le_trans ih (Nat.le_add_right _ _)
def lineT (p : Rat) (ts : List Tm) : List D := (primT (rowF p.num p.den (topT ts) ts) (lenT (rowF p.num p.den (topT ts) ts) (hiT ts))).map .int
theorem primT_zero {f : Nat → Int} : primT f 0 = [] := by unfold primT; split <;> rfl
def cLineBy : Ct := fun ds S Q _ => ∃ (ts : List Tm) (p : Rat), ds = [.tup (ts.map tmD), ratD p] ∧ ts.length ≤ 5 ∧ (∀ t ∈ ts, TmOk t) ∧ Qz 4 p ∧ ∀ S', (∃ x, S' = S ++ [x]) → Q (.tup (lineT p ts)) S'
theorem snoc_set {S : Store} {x y : Ob} : (S ++ [x]).set S.length y = S ++ [y] := by
  rw [List.set_append_right _ _ (Nat.le_refl _)]
  simp
theorem snoc_get {S : Store} {x : Ob} : (S ++ [x])[S.length]? = some x := by simp
abbrev lbE (ts : List Tm) (p : Rat) (top : Nat) (m : Nat) (i j c l w : Option D) : Dx.Env := [some (.tup (ts.map tmD)), some (ratD p), some (.int top), some (.obj m), i, j, c, l, w]
theorem lineby_ok (ds : List D) (S : Store) (Q : D → Store → Prop) (E : QX) (h : cLineBy ds S Q E) : fsline_by cHigh cPow cTrim cPrim (bodyEnds Q E) (startE Nline_by ds) S := by
  obtain ⟨ts, p, rfl, hl, hm, hp, hq⟩ := h
  have hs := sizeLine_eq
  have z1 : ∀ k : Nat, k ≤ 100 → k ≤ sizeLine := fun k h => by omega
  obtain ⟨t1, t2, t3⟩ := top_le hm
  obtain ⟨g1, g2, g3⟩ := hi_le hm
  simp only [fsline_by, seqS]
  simp [seqS, setS, retS, retN, exprS, nilS, ifS, parS, asgS, bindT, bindTs, bindF, callC, varF, retF, consF, nilF, iteV, truF, truD, notF, andF, orF, andV, orV, notV, chF, chT, bodyEnds, startE, optF, idxF, slcF, intF, noF, newL, tyD, isiT, isiB, lenB, absB, intB, gcdB, tupB, lstB, ltG, leG, gtG, geG, isG, isnG, o2I, isO, getS, addF, subF, mulF, eqG_ii, neG_ii, neG_bb, fdivG, modG, powG, raiseS, wipeE, Nline_by, z1]
  refine compF_val (ts.map tmD) (fun _ => True) (fun _ => true) (fun d => .int ((tmOf d).1 : Int)) (fun Q h => ?_) trivial (by simp; omega) (fun d hd => ?_) ?_
  · simp [seqS, setS, retS, retN, exprS, nilS, ifS, parS, asgS, bindT, bindTs, bindF, callC, varF, retF, consF, nilF, iteV, truF, truD, notF, andF, orF, andV, orV, notV, chF, chT, bodyEnds, startE, optF, idxF, slcF, intF, noF, newL, tyD, isiT, isiB, lenB, absB, intB, gcdB, tupB, lstB, ltG, leG, gtG, geG, isG, isnG, o2I, isO, getS, addF, subF, mulF, eqG_ii, neG_ii, neG_bb, fdivG, modG, powG, raiseS, wipeE, itsF]; exact h
  · obtain ⟨t, ht, rfl⟩ := List.mem_map.mp hd
    refine ⟨_, rfl, fun Q h => h, fun _ Q h => ?_⟩
    rw [tmOf_tm] at h
    simp [seqS, setS, retS, retN, exprS, nilS, ifS, parS, asgS, bindT, bindTs, bindF, callC, varF, retF, consF, nilF, iteV, truF, truD, notF, andF, orF, andV, orV, notV, chF, chT, bodyEnds, startE, optF, idxF, slcF, intF, noF, newL, tyD, isiT, isiB, lenB, absB, intB, gcdB, tupB, lstB, ltG, leG, gtG, geG, isG, isnG, o2I, isO, getS, addF, subF, mulF, eqG_ii, neG_ii, neG_bb, fdivG, modG, powG, raiseS, wipeE, L2.atI, L2.ixN]
    exact h
  have ef : (ts.map tmD).filter (fun _ => true) = ts.map tmD := by simp
  rw [ef, map_tm (g := fun t => .int (t.1 : Int)) fun t => by rw [tmOf_tm]]
  simp [seqS, setS, retS, retN, exprS, nilS, ifS, parS, asgS, bindT, bindTs, bindF, callC, varF, retF, consF, nilF, iteV, truF, truD, notF, andF, orF, andV, orV, notV, chF, chT, bodyEnds, startE, optF, idxF, slcF, intF, noF, newL, tyD, isiT, isiB, lenB, absB, intB, gcdB, tupB, lstB, ltG, leG, gtG, geG, isG, isnG, o2I, isO, getS, addF, subF, mulF, eqG_ii, neG_ii, neG_bb, fdivG, modG, powG, raiseS, wipeE]
  refine ⟨by omega, ?_⟩
  have e2 : allSome asInt (.int 0 :: ts.map fun t : Tm => D.int (t.1 : Int)) = some (0 :: ts.map fun t => (t.1 : Int)) := by
    simp [allSome, asInt, allInt_map]
  have e3 : ∀ (xs : List D) (τ : Dx.Env) (Q : D → Store → Prop) (E : QX), allSome asInt xs = some (0 :: ts.map fun t => (t.1 : Int)) → Q (.int (topT ts)) S → maxB [.lst xs] τ S Q E := fun xs τ Q E h hq => by
    unfold maxB optF
    simp only [getS, h]
    rw [t3] at hq
    exact hq
  refine e3 _ _ _ _ e2 ?_
  refine ⟨ts, rfl, by omega, ?_⟩
  have g4 : maxL (-1) (ts.map fun t => (t.2.1 : Int)) + 1 = (hiT ts : Nat) := g3.symm
  simp only [g4]
  simp [seqS, setS, retS, retN, exprS, nilS, ifS, parS, asgS, bindT, bindTs, bindF, callC, varF, retF, consF, nilF, iteV, truF, truD, notF, andF, orF, andV, orV, notV, chF, chT, bodyEnds, startE, optF, idxF, slcF, intF, noF, newL, tyD, isiT, isiB, lenB, absB, intB, gcdB, tupB, lstB, ltG, leG, gtG, geG, isG, isnG, o2I, isO, getS, addF, subF, mulF, eqG_ii, neG_ii, neG_bb, fdivG, modG, powG, raiseS, wipeE]
  refine ⟨by omega, ?_⟩
  have e4 : List.replicate (hiT ts) (D.int 0) = rowI (rowF p.num p.den (topT ts) (ts.take 0)) (hiT ts) := by
    have : rowF p.num p.den (topT ts) (ts.take 0) = fun _ => 0 := funext fun j => rfl
    rw [this]
    unfold rowI
    rw [List.map_const']
    simp
  try rw [e4]
  simp only [forS, itE, bindF, varF, List.getElem?_cons_succ, List.getElem?_cons_zero, itsF, getS]
  refine forL_inv (fun n τ S' => S' = S ++ [.lst (rowI (rowF p.num p.den (topT ts) (ts.take n)) (hiT ts))] ∧ ∃ i j c, τ = lbE ts p (topT ts) S.length i j c none none) _ 0 ⟨rfl, none, none, none, rfl⟩ ?_ ?_
  · rintro k d hk τ S' K ⟨rfl, i', j', c', rfl⟩ hK
    rw [Nat.zero_add] at hK ⊢
    obtain ⟨t, ht, rfl⟩ := get_tm hk
    have hmem := List.mem_of_getElem? ht
    have tk := hm t hmem
    have b4 := term_bd tk hp.1 (Fz.bn hp) t1
    have hjh := g2 t hmem
    have hit := t2 t hmem
    have c1 : cMul t.2.2 (p.num ^ t.1) = true := cmul_ok (Nat.lt_of_le_of_lt tk.2.1 (by decide)) (Nat.lt_of_le_of_lt (pow_bd hp.1) (Nat.lt_of_le_of_lt (pow_mono (show 4 * t.1 ≤ 16 by have := tk.1; omega)) (by decide)))
    have c2 : cMul (t.2.2 * p.num ^ t.1) ((p.den : Int) ^ (topT ts - t.1)) = true := cmul_ok (Nat.lt_of_le_of_lt b4.1 (by decide)) (Nat.lt_of_le_of_lt (pow_bd (Fz.bn hp)) (Nat.lt_of_le_of_lt (pow_mono (show 4 * (topT ts - t.1) ≤ 16 by omega)) (by decide)))
    refine ⟨trivial, lbE ts p (topT ts) S.length (some (.int t.1)) (some (.int t.2.1)) (some (.int t.2.2)) none none, rfl, ?_⟩
    have hg : L2.atI (rowI (rowF p.num p.den (topT ts) (ts.take k)) (hiT ts)) (t.2.1 : Int) = some (.int (rowF p.num p.den (topT ts) (ts.take k) t.2.1)) := by
      unfold L2.atI L2.ixN
      rw [rowI_len, if_pos (by omega), if_pos (by omega)]
      simp [rowI, hjh]
    have hx : L2.ixN (rowI (rowF p.num p.den (topT ts) (ts.take k)) (hiT ts)).length (t.2.1 : Int) = some t.2.1 := by
      unfold L2.ixN
      rw [rowI_len, if_pos (by omega), if_pos (by omega)]
      simp
    have hK := hK (lbE ts p (topT ts) S.length (some (.int t.1)) (some (.int t.2.1)) (some (.int t.2.2)) none none) (S ++ [.lst (rowI (rowF p.num p.den (topT ts) (ts.take (k + 1))) (hiT ts))]) ⟨rfl, _, _, _, rfl⟩
    have er : (rowI (rowF p.num p.den (topT ts) (ts.take k)) (hiT ts)).set t.2.1 (.int (rowF p.num p.den (topT ts) (ts.take k) t.2.1 + t.2.2 * p.num ^ t.1 * (p.den : Int) ^ (topT ts - t.1))) = rowI (rowF p.num p.den (topT ts) (ts.take (k + 1))) (hiT ts) := by
      rw [set_rowI, take_snoc ht]
      congr 1
      funext i
      rw [rowF_snoc]
      by_cases e : i = t.2.1
      · subst e; simp
      · rw [if_neg e, if_neg (fun z => e z.symm)]
    rw [← er] at hK
    revert hK hg hx
    generalize rowI (rowF p.num p.den (topT ts) (ts.take k)) (hiT ts) = RR
    generalize rowF p.num p.den (topT ts) (ts.take k) t.2.1 = vv
    intro hg hx hK
    simp [subS, seqS, setS, retS, retN, exprS, nilS, ifS, parS, asgS, bindT, bindTs, bindF, callC, varF, retF, consF, nilF, iteV, truF, truD, notF, andF, orF, andV, orV, notV, chF, chT, bodyEnds, startE, optF, idxF, slcF, intF, noF, newL, tyD, isiT, isiB, lenB, absB, intB, gcdB, tupB, lstB, ltG, leG, gtG, geG, isG, isnG, o2I, isO, getS, addF, subF, mulF, eqG_ii, neG_ii, neG_bb, fdivG, modG, powG, raiseS, wipeE, snoc_get, hg, ratD, fr, i0, i1]
    refine ⟨p.num, t.1, 4, rfl, hp.1, by have := tk.1; omega, by omega, by have := tk.1; omega, ?_⟩
    simp [seqS, setS, retS, retN, exprS, nilS, ifS, parS, asgS, bindT, bindTs, bindF, callC, varF, retF, consF, nilF, iteV, truF, truD, notF, andF, orF, andV, orV, notV, chF, chT, bodyEnds, startE, optF, idxF, slcF, intF, noF, newL, tyD, isiT, isiB, lenB, absB, intB, gcdB, tupB, lstB, ltG, leG, gtG, geG, isG, isnG, o2I, isO, getS, addF, subF, mulF, eqG_ii, neG_ii, neG_bb, fdivG, modG, powG, raiseS, wipeE, c1]
    have es : ((topT ts : Nat) : Int) - (t.1 : Nat) = ((topT ts - t.1 : Nat) : Int) := by omega
    refine ⟨p.den, topT ts - t.1, 4, by rw [es], Fz.bn hp, by omega, by omega, by omega, ?_⟩
    simp [seqS, setS, retS, retN, exprS, nilS, ifS, parS, asgS, bindT, bindTs, bindF, callC, varF, retF, consF, nilF, iteV, truF, truD, notF, andF, orF, andV, orV, notV, chF, chT, bodyEnds, startE, optF, idxF, slcF, intF, noF, newL, tyD, isiT, isiB, lenB, absB, intB, gcdB, tupB, lstB, ltG, leG, gtG, geG, isG, isnG, o2I, isO, getS, addF, subF, mulF, eqG_ii, neG_ii, neG_bb, fdivG, modG, powG, raiseS, wipeE, c2, snoc_get]
    rw [hx]
    simp
    exact hK
  · rintro τ S' ⟨rfl, i', j', c', rfl⟩
    refine ⟨trivial, ?_⟩
    have e5 : 0 + (ts.map tmD).length = ts.length := by simp
    rw [e5, List.take_length]
    simp [seqS, setS, retS, retN, exprS, nilS, ifS, parS, asgS, bindT, bindTs, bindF, callC, varF, retF, consF, nilF, iteV, truF, truD, notF, andF, orF, andV, orV, notV, chF, chT, bodyEnds, startE, optF, idxF, slcF, intF, noF, newL, tyD, isiT, isiB, lenB, absB, intB, gcdB, tupB, lstB, ltG, leG, gtG, geG, isG, isnG, o2I, isO, getS, addF, subF, mulF, eqG_ii, neG_ii, neG_bb, fdivG, modG, powG, raiseS, wipeE]
    refine ⟨.obj S.length, rowF p.num p.den (topT ts) ts, hiT ts, rfl, by simp [getS], by omega, ?_⟩
    have hdt := rowI_dat (rowF p.num p.den (topT ts) ts) (lenT (rowF p.num p.den (topT ts) ts) (hiT ts))
    refine neG_of (by simp only [datD]; exact hdt.1) rfl (by simp only [depD, hdt.2]; omega) (by simp [depD, depDs]) ?_
    simp only [eqD, rowI_ne]
    have hlen := lenT_le (rowF p.num p.den (topT ts) ts) (hiT ts)
    have hnz := fun k => lenT_nz (f := rowF p.num p.den (topT ts) ts) (n := hiT ts) (k := k)
    have hbd := fun j => rowF_bd (a := p.num) (b := p.den) (top := topT ts) j hp.1 (Fz.bn hp) t1 ts hm
    have hq := hq _ ⟨.lst (rowI (rowF p.num p.den (topT ts) ts) (hiT ts)), rfl⟩
    unfold lineT at hq
    revert hq hnz hlen
    generalize lenT (rowF p.num p.den (topT ts) ts) (hiT ts) = n
    intro hlen hnz hq
    cases n with
    | zero =>
      rw [primT_zero] at hq
      simp [seqS, setS, retS, retN, exprS, nilS, ifS, parS, asgS, bindT, bindTs, bindF, callC, varF, retF, consF, nilF, iteV, truF, truD, notF, andF, orF, andV, orV, notV, chF, chT, bodyEnds, startE, optF, idxF, slcF, intF, noF, newL, tyD, isiT, isiB, lenB, absB, intB, gcdB, tupB, lstB, ltG, leG, gtG, geG, isG, isnG, o2I, isO, getS, addF, subF, mulF, eqG_ii, neG_ii, neG_bb, fdivG, modG, powG, raiseS, wipeE]
      exact hq
    | succ n =>
      simp [seqS, setS, retS, retN, exprS, nilS, ifS, parS, asgS, bindT, bindTs, bindF, callC, varF, retF, consF, nilF, iteV, truF, truD, notF, andF, orF, andV, orV, notV, chF, chT, bodyEnds, startE, optF, idxF, slcF, intF, noF, newL, tyD, isiT, isiB, lenB, absB, intB, gcdB, tupB, lstB, ltG, leG, gtG, geG, isG, isnG, o2I, isO, getS, addF, subF, mulF, eqG_ii, neG_ii, neG_bb, fdivG, modG, powG, raiseS, wipeE]
      refine ⟨_, n + 1, rfl, by omega, by omega, hnz n rfl, ?_, hq⟩
      have := hbd n
      have : (5 * 2 ^ 60 : Nat) < 2 ^ 4000 := by decide
      simp only [Nat.add_sub_cancel]
      omega
def cLineOn : Ct := fun ds S Q E => ∃ v x l, ds = [v, x] ∧ okD l v = true ∧ l ≤ 10000 ∧ okD l x = true ∧ (surfB v = false → E ⟨"InvalidSurface", []⟩ S) ∧ (surfB v = true → isFrac x = false → E ⟨"InvalidFraction", []⟩ S) ∧
  (surfB v = true → isFrac x = true → ∃ (ts : List Tm) (p : Rat), v = .tup (ts.map tmD) ∧ x = ratD p ∧ ts.length ≤ 5 ∧ (∀ t ∈ ts, TmOk t) ∧ Qz 4 p ∧ ∀ S', (∃ y, S' = S ++ [y]) → Q (.tup (lineT p ts)) S')
theorem lineon_ok (ds : List D) (S : Store) (Q : D → Store → Prop) (E : QX) (h : cLineOn ds S Q E) : fsline_on cNeedS cNeedF cLineBy (bodyEnds Q E) (startE Nline_on ds) S := by
  obtain ⟨v, x, l, rfl, hv, hl, hx, h1, h2, h4⟩ := h
  simp [fsline_on, seqS, setS, retS, retN, exprS, nilS, ifS, parS, asgS, bindT, bindTs, bindF, callC, varF, retF, consF, nilF, iteV, truF, truD, notF, andF, orF, andV, orV, notV, chF, chT, bodyEnds, startE, optF, idxF, slcF, intF, noF, newL, tyD, isiT, isiB, lenB, absB, intB, gcdB, tupB, lstB, ltG, leG, gtG, geG, isG, isnG, o2I, isO, getS, addF, subF, mulF, eqG_ii, neG_ii, neG_bb, fdivG, modG, powG, raiseS, wipeE, Nline_on]
  refine ⟨v, l, rfl, hv, hl, fun hs => ?_, fun hs => h1 hs⟩
  refine ⟨x, l, rfl, hx, fun hf => ?_, fun hf => h2 hs hf⟩
  obtain ⟨ts, p, rfl, rfl, k1, k2, k3, k4⟩ := h4 hs hf
  exact ⟨ts, p, rfl, k1, k2, k3, k4⟩
end LawX

set_option Elab.async false
set_option linter.all false
set_option maxRecDepth 100000
set_option maxHeartbeats 0
set_option exponentiation.threshold 5000
namespace LawX
open PySem PySem.Spec PyProof.Rows L2 Dx
/-! ### the law's line -/
def rowQ (p : Rat) (ts : List Tm) (n : Nat) : List D := (List.range n).map fun j => ratD (rowR p ts j)
theorem rowQ_len {p : Rat} {ts : List Tm} {n : Nat} : (rowQ p ts n).length = n := by simp [rowQ]
theorem rowQ_succ {p : Rat} {ts : List Tm} {n : Nat} : rowQ p ts (n + 1) = rowQ p ts n ++ [ratD (rowR p ts n)] := by
  unfold rowQ
  rw [List.range_succ, List.map_append]
  rfl
theorem at_last {xs : List D} {x : D} : L2.atI (xs ++ [x]) (-1) = some x := by
  unfold L2.atI L2.ixN
  have e2 : (-1 + ((xs.length : Int) + 1)).toNat = xs.length := by omega
  simp
  rw [if_pos (by omega), e2]
  simp
theorem rowQ_dat (p : Rat) (ts : List Tm) : ∀ n, datDs (rowQ p ts n) = true ∧ depDs (rowQ p ts n) ≤ 1 := by
  intro n
  unfold rowQ
  induction (List.range n) with
  | nil => exact ⟨rfl, by simp [depDs]⟩
  | cons a l ih =>
    simp only [List.map_cons, datDs, depDs]
    refine ⟨by rw [ih.1]; rfl, ?_⟩
    have : depD (ratD (rowR p ts a)) = 1 := rfl
    omega
theorem rowQ_ne {p : Rat} {ts : List Tm} {n : Nat} : eqDs (rowQ p ts n) [] = decide (n = 0) := by
  cases n with
  | zero => rfl
  | succ n => simp [rowQ, List.range_succ_eq_map, eqDs]
theorem neG_get {x y a : D} {τ : Dx.Env} {S : Store} {Q : D → Store → Prop} {E : QX} (hx : getS S x = a) (ha : getS S a = a) (h : neG a y τ S Q E) : neG x y τ S Q E := by
  unfold neG optF neO at h ⊢
  rw [ha] at h
  rw [hx]
  exact h
theorem set_rowQ {p : Rat} {ts : List Tm} {t : Tm} {n : Nat} : (rowQ p ts n).set t.2.1 (ratD (rowR p ts t.2.1 + (t.2.2 : Rat) * p ^ t.1)) = rowQ p (ts ++ [t]) n := by
  apply List.ext_getElem?
  intro i
  by_cases e : i = t.2.1
  · subst e
    by_cases h : t.2.1 < n
    · rw [List.getElem?_set_self (by rw [rowQ_len]; exact h)]
      simp [rowQ, h, rowR_snoc]
    · rw [List.getElem?_eq_none (by simp [rowQ]; omega), List.getElem?_eq_none (by simp [rowQ]; omega)]
  · rw [List.getElem?_set_ne (fun z => e z.symm)]
    unfold rowQ
    rw [List.getElem?_map, List.getElem?_map]
    by_cases h : i < n
    · rw [List.getElem?_range h]
      have e' : ¬ t.2.1 = i := fun z => e z.symm
      simp only [Option.map_some, rowR_snoc, if_neg e']
    · rw [List.getElem?_eq_none (by simp; omega)]
      rfl
theorem rowR_size {p : Rat} (hp : Qz 4 p) (j : Nat) : ∀ ts : List Tm, (∀ t ∈ ts, TmOk t) → Qz (60 * (ts.length + 1)) (rowR p ts j) := by
  refine list_snoc_ind ?_ ?_
  · intro _
    have e : rowR p [] j = 0 := rfl
    rw [e]
    exact ⟨by decide, by decide, by decide⟩
  · intro l t ih h
    have ih := ih fun u hu => h u (List.mem_append_left _ hu)
    have ht := h t (by simp)
    rw [rowR_snoc, List.length_append]
    simp only [List.length_cons, List.length_nil]
    have o := (own_size ht).q
    rw [qf_one] at o
    have a := (Fz.pow hp (by omega) 4 t.1 (by have := ht.1; omega) (by omega)).q
    rw [qf_pow hp.2.1, qf_rat] at a
    split
    · exact (ih.add (o.mul a)).mono (by omega)
    · exact ih.mono (by omega)
def und (p : Rat) (ts : List Tm) (n : Nat) : Nat := (List.range n).foldl (fun u j => u * (rowR p ts j).den) 1
theorem und_succ {p : Rat} {ts : List Tm} {n : Nat} : und p ts (n + 1) = und p ts n * (rowR p ts n).den := by
  unfold und
  rw [List.range_succ, List.foldl_append]
  rfl
theorem und_pos {p : Rat} {ts : List Tm} : ∀ n, 0 < und p ts n
  | 0 => by simp [und]
  | n + 1 => by rw [und_succ]; exact Nat.mul_pos (und_pos n) (rowR p ts n).den_pos
theorem und_dvd {p : Rat} {ts : List Tm} : ∀ {n j : Nat}, j < n → (rowR p ts j).den ∣ und p ts n
  | n + 1, j, h => by
    rw [und_succ]
    by_cases e : j = n
    · subst e; exact Nat.dvd_mul_left _ _
    · exact Nat.dvd_trans (und_dvd (by omega)) (Nat.dvd_mul_right _ _)
theorem und_size {p : Rat} {ts : List Tm} (hp : Qz 4 p) (hl : ts.length ≤ 5) (hm : ∀ t ∈ ts, TmOk t) : ∀ n, und p ts n < 2 ^ (360 * n + 1)
  | 0 => by simp [und]
  | n + 1 => by
    rw [und_succ]
    have h1 := und_size hp hl hm n
    have h2 := (rowR_size hp n ts hm).mono (k := 360) (by omega)
    have h3 : (rowR p ts n).den < 2 ^ 360 := by
      have := h2.2.2
      have e1 : ((2 ^ 360 : Nat) : Int) = 2 ^ 360 := by simp
      omega
    have := mulN h1 h3
    rw [show 360 * n + 1 + 360 = 360 * (n + 1) + 1 by omega] at this
    exact this
def wF (p : Rat) (ts : List Tm) (n : Nat) (j : Nat) : Int := ((rowR p ts j).num * (und p ts n : Nat)).fdiv (rowR p ts j).den
theorem wF_rat {p : Rat} {ts : List Tm} {n j : Nat} (h : j < n) : ((wF p ts n j : Int) : Rat) = ((und p ts n : Nat) : Int) * rowR p ts j := by
  obtain ⟨c, hc⟩ := und_dvd (p := p) (ts := ts) h
  unfold wF
  rw [hc]
  have hd := (rowR p ts j).den_pos
  have e1 : (rowR p ts j).num * (((rowR p ts j).den * c : Nat) : Int) = ((rowR p ts j).den : Int) * ((rowR p ts j).num * c) := by
    rw [Int.natCast_mul]
    rw [← Int.mul_assoc, Int.mul_comm (rowR p ts j).num, Int.mul_assoc]
  rw [e1, Int.mul_fdiv_cancel_left _ (by omega)]
  have e2 := rat_den (rowR p ts j)
  rw [Int.natCast_mul, Rat.intCast_mul, Rat.intCast_mul, ← e2]
  grind
def numR (p : Rat) (ts : List Tm) (j : Nat) : Int := (rowR p ts j).num
theorem rowF_zero {a b : Int} {top : Nat} (j : Nat) : ∀ ts : List Tm, (∀ t ∈ ts, t.2.1 ≠ j) → rowF a b top ts j = 0 := by
  refine list_snoc_ind ?_ ?_
  · intro _; rfl
  · intro l t ih h
    rw [rowF_snoc, if_neg (h t (by simp))]
    exact ih fun u hu => h u (List.mem_append_left _ hu)
theorem den_ne (p : Rat) (top : Nat) : ((p.den : Int) : Rat) ^ top ≠ 0 := by
  rw [← Rat.intCast_pow]
  intro h
  have := Rat.intCast_eq_zero_iff.mp h
  have hp : (0 : Int) < (p.den : Int) ^ top := Int.pow_pos (by have := p.den_pos; omega)
  omega
theorem zero_iff {p : Rat} {ts : List Tm} (hm : ∀ t ∈ ts, TmOk t) (j : Nat) : rowF p.num p.den (topT ts) ts j = 0 ↔ numR p ts j = 0 := by
  have e := rowF_R (p := p) (top := topT ts) j ts (top_le hm).2.1
  unfold numR
  constructor
  · intro h
    rw [h] at e
    have e0 : (0 : Rat) = ((p.den : Int) : Rat) ^ topT ts * rowR p ts j := by simpa using e
    rcases Rat.mul_eq_zero.mp e0.symm with q | q
    · exact absurd q (den_ne p _)
    · rw [q]; rfl
  · intro h
    have hz : rowR p ts j = 0 := Rat.num_eq_zero.mp h
    rw [hz, Rat.mul_zero] at e
    exact Rat.intCast_eq_zero_iff.mp e
theorem len_same {p : Rat} {ts : List Tm} (hm : ∀ t ∈ ts, TmOk t) : lenT (rowF p.num p.den (topT ts) ts) (hiT ts) = lenT (numR p ts) 5 := by
  obtain ⟨g1, g2, g3⟩ := hi_le hm
  rw [← lenT_more (f := rowF p.num p.den (topT ts) ts) (m := hiT ts) (n := 5) g1 fun j h1 h2 => rowF_zero j ts fun t ht e => by have := g2 t ht; omega]
  exact lenT_congr fun j _ => zero_iff hm j
theorem line_same {p : Rat} {ts : List Tm} (hm : ∀ t ∈ ts, TmOk t) {n : Nat} (hn : n = lenT (numR p ts) 5) (h0 : n ≠ 0) :
    wF p ts n (n - 1) ≠ 0 ∧ lineT p ts = (if 0 < wF p ts n (n - 1) then (List.range n).map fun j => D.int ((wF p ts n j).fdiv (cont (wF p ts n) n)) else (List.range n).map fun j => D.int ((wF p ts n j).fdiv (-(cont (wF p ts n) n : Int)))) := by
  have hA : 0 < p.den ^ topT ts := Nat.pow_pos p.den_pos
  have hrel : ∀ j, j < n → rowF p.num p.den (topT ts) ts j * (und p ts n : Nat) = (p.den ^ topT ts : Nat) * wF p ts n j := fun j hj => by
    apply Rat.intCast_inj.mp
    rw [Rat.intCast_mul, Rat.intCast_mul, rowF_R j ts (top_le hm).2.1, wF_rat hj, Int.natCast_pow, Rat.intCast_pow]
    grind
  obtain ⟨k, rfl⟩ : ∃ k, n = k + 1 := ⟨n - 1, by omega⟩
  have hz : rowF p.num p.den (topT ts) ts k ≠ 0 := fun z => lenT_nz hn.symm ((zero_iff hm k).mp z)
  have hw : wF p ts (k + 1) k ≠ 0 := fun z => by
    have := hrel k (by omega)
    rw [z, Int.mul_zero] at this
    rcases Int.mul_eq_zero.mp this with q | q
    · exact hz q
    · have := und_pos (p := p) (ts := ts) (k + 1); omega
  refine ⟨hw, ?_⟩
  unfold lineT
  rw [len_same hm, ← hn, prim_one hA (und_pos _) hrel (by omega) hz]
  by_cases hp : 0 < wF p ts (k + 1) (k + 1 - 1)
  · rw [if_pos hp, if_pos hp, List.map_map]; rfl
  · rw [if_neg hp, if_neg hp, List.map_map]; rfl
theorem line_zero {p : Rat} {ts : List Tm} (hm : ∀ t ∈ ts, TmOk t) (hn : lenT (numR p ts) 5 = 0) : lineT p ts = [] := by
  unfold lineT
  rw [len_same hm, hn, primT_zero]
  rfl
end LawX

set_option Elab.async false
set_option linter.all false
set_option maxRecDepth 100000
set_option maxHeartbeats 0
set_option exponentiation.threshold 5000
namespace LawX
open PySem PySem.Spec PyProof.Rows L2 Dx
abbrev llE (ts : List Tm) (p : Rat) (row i j c m t u co wh : Option D) : Dx.Env := [some (.tup (ts.map tmD)), some (ratD p), row, i, j, c, m, t, u, co, wh]
def cLLn : Ct := fun ds S Q _ => ∃ (ts : List Tm) (p : Rat), ds = [.tup (ts.map tmD), ratD p] ∧ ts.length ≤ 5 ∧ (∀ t ∈ ts, TmOk t) ∧ Qz 4 p ∧ ∀ S', (∃ x, S' = S ++ [x]) → Q (.tup (lineT p ts)) S'
theorem rowQ_last {p : Rat} {ts : List Tm} {n : Nat} : L2.atI (rowQ p ts (n + 1)) (-1) = some (ratD (rowR p ts n)) := by rw [rowQ_succ, at_last]
theorem rowQ_cut {p : Rat} {ts : List Tm} {n : Nat} : Dx.cutD (rowQ p ts (n + 1)) none (some (-1)) = rowQ p ts n := by rw [rowQ_succ, cut_last]
theorem rowQ_get {p : Rat} {ts : List Tm} {n j : Nat} {d : D} (h : (rowQ p ts n)[j]? = some d) : j < n ∧ d = ratD (rowR p ts j) := by
  unfold rowQ at h
  rw [List.getElem?_map] at h
  obtain ⟨k, h1, rfl⟩ := Option.map_eq_some_iff.mp h
  obtain ⟨h3, h4⟩ := List.getElem?_eq_some_iff.mp h1
  rw [List.getElem_range] at h4
  subst h4
  exact ⟨by simpa using h3, rfl⟩
theorem getS_lst {S : Store} {v : D} {xs : List D} (h : getS S v = .lst xs) : v = .lst xs ∨ ∃ m, v = .obj m ∧ S[m]? = some (.lst xs) := by
  cases v with
  | obj m =>
    right
    simp only [getS] at h
    split at h
    · rename_i ds hs
      cases h
      exact ⟨m, rfl, hs⟩
    · cases h
  | lst ds => left; exact h
  | _ => cases h
section
variable {E : DEnds} {S : Store} {ts : List Tm} {p : Rat}
/-- the while loop leaves noughts off -/
theorem ll_while {v : D} (hv : getS S v = .lst (rowQ p ts 5)) {i j c m t u co wh : Option D} (hn : ∀ v', getS S v' = .lst (rowQ p ts (lenT (numR p ts) 5)) → E.nx (llE ts p (some v') i j c m t u co wh) S) :
    (whileS (andF (cmpT neG (varF 2) (lstE false nilF)) (cmpT eqG (idxE (idxE (varF 2) (negE (int! 1))) (int! 0)) (int! 0))) (setS 2 (slcE false (varF 2) noF (someI (negE (int! 1)))))) E (llE ts p (some v) i j c m t u co wh) S := by
  refine ⟨fun n τ S' => S' = S ∧ n ≤ 5 ∧ lenT (numR p ts) n = lenT (numR p ts) 5 ∧ ∃ v, getS S v = .lst (rowQ p ts n) ∧ τ = llE ts p (some v) i j c m t u co wh, ⟨5, rfl, Nat.le_refl _, rfl, v, hv, rfl⟩, ?_⟩
  rintro n τ S' ⟨rfl, h5, hl, v, hv, rfl⟩
  have hdt := rowQ_dat p ts n
  simp only [andF, cmpT, bindF, varF, List.getElem?_cons_succ, List.getElem?_cons_zero, lstE, nilF, retF]
  refine ⟨by simp, ?_⟩
  simp only [newL, Bool.false_eq_true, if_false]
  refine neG_get hv rfl (neG_of (by simp only [datD]; exact hdt.1) rfl (by simp only [depD]; omega) (by simp [depD, depDs]) ?_)
  simp only [eqD, rowQ_ne]
  cases n with
  | zero =>
    simp [seqS, setS, retS, retN, exprS, nilS, ifS, parS, asgS, bindT, bindTs, bindF, callC, varF, retF, consF, nilF, iteV, truF, truD, notF, andF, orF, andV, orV, notV, chF, chT, bodyEnds, startE, optF, idxF, slcF, intF, noF, newL, tyD, isiT, isiB, lenB, absB, intB, gcdB, tupB, lstB, ltG, leG, gtG, geG, isG, isnG, o2I, isO, getS, addF, subF, mulF, eqG_ii, neG_ii, neG_bb, fdivG, modG, powG, raiseS, wipeE]
    have := hn v (by rw [← hl]; exact hv)
    exact this
  | succ k =>
    have hn := hn v
    rcases getS_lst hv with rfl | ⟨m', rfl, hS⟩
    · simp [seqS, setS, retS, retN, exprS, nilS, ifS, parS, asgS, bindT, bindTs, bindF, callC, varF, retF, consF, nilF, iteV, truF, truD, notF, andF, orF, andV, orV, notV, chF, chT, bodyEnds, startE, optF, idxF, slcF, intF, noF, newL, tyD, isiT, isiB, lenB, absB, intB, gcdB, tupB, lstB, ltG, leG, gtG, geG, isG, isnG, o2I, isO, getS, addF, subF, mulF, eqG_ii, neG_ii, neG_bb, fdivG, modG, powG, raiseS, wipeE, rowQ_last, rowQ_cut, ratD, fr, i0]
      by_cases h0 : rowR p ts k = 0
      · have hz : numR p ts k = 0 := by unfold numR; rw [h0]; rfl
        rw [if_pos h0]
        exact ⟨k, by omega, by omega, by rw [← hl]; simp [lenT, hz], rfl⟩
      · have hz : ¬ numR p ts k = 0 := fun z => h0 (Rat.num_eq_zero.mp z)
        rw [if_neg h0]
        have e : lenT (numR p ts) (k + 1) = k + 1 := by simp [lenT, hz]
        refine hn ?_
        rw [← hl, e]
        rfl
    · simp [seqS, setS, retS, retN, exprS, nilS, ifS, parS, asgS, bindT, bindTs, bindF, callC, varF, retF, consF, nilF, iteV, truF, truD, notF, andF, orF, andV, orV, notV, chF, chT, bodyEnds, startE, optF, idxF, slcF, intF, noF, newL, tyD, isiT, isiB, lenB, absB, intB, gcdB, tupB, lstB, ltG, leG, gtG, geG, isG, isnG, o2I, isO, getS, addF, subF, mulF, eqG_ii, neG_ii, neG_bb, fdivG, modG, powG, raiseS, wipeE, hS, rowQ_last, rowQ_cut, ratD, fr, i0]
      by_cases h0 : rowR p ts k = 0
      · have hz : numR p ts k = 0 := by unfold numR; rw [h0]; rfl
        rw [if_pos h0]
        exact ⟨k, by omega, by omega, by rw [← hl]; simp [lenT, hz], rfl⟩
      · have hz : ¬ numR p ts k = 0 := fun z => h0 (Rat.num_eq_zero.mp z)
        rw [if_neg h0]
        have e : lenT (numR p ts) (k + 1) = k + 1 := by simp [lenT, hz]
        refine hn ?_
        rw [← hl, e]
        exact hv
/-- the product of the parts below -/
theorem ll_under {v : D} {n : Nat} (hp : Qz 4 p) (hl : ts.length ≤ 5) (hm : ∀ t ∈ ts, TmOk t) (h5 : n ≤ 5) (hv : getS S v = .lst (rowQ p ts n)) {i j c m t co wh : Option D} (hn : ∀ c, E.nx (llE ts p (some v) i j c m t (some (.int (und p ts n : Nat))) co wh) S) :
    (forS (itE (varF 2)) (.name 5) (setS 8 (binE (mulF false) (varF 8) (idxE (varF 5) (int! 1))))) E (llE ts p (some v) i j c m t (some (.int 1)) co wh) S := by
  unfold forS
  simp only [itE, bindF, varF, List.getElem?_cons_succ, List.getElem?_cons_zero, itsF, hv]
  refine forL_inv (fun k τ S' => S' = S ∧ ∃ c, τ = llE ts p (some v) i j c m t (some (.int (und p ts k : Nat))) co wh) _ 0 ⟨rfl, c, rfl⟩ ?_ ?_
  · rintro k d hk τ S' K ⟨rfl, c, rfl⟩ hK
    rw [Nat.zero_add] at hK ⊢
    obtain ⟨hkn, rfl⟩ := rowQ_get hk
    have s1 := und_size (p := p) hp hl hm k
    have s2 := (rowR_size hp k ts hm).mono (k := 360) (by omega)
    have s3 : ((und p ts k : Nat) : Int).natAbs < 2 ^ 4000 := by
      rw [Int.natAbs_natCast]
      exact Nat.lt_of_lt_of_le s1 (pow_mono (by omega))
    have hmul : cMul (und p ts k : Nat) ((rowR p ts k).den : Nat) = true := cmul_ok s3 (Nat.lt_of_lt_of_le (Fz.bn s2) (pow_mono (by omega)))
    refine ⟨hv, llE ts p (some v) i j (some (ratD (rowR p ts k))) m t (some (.int (und p ts k : Nat))) co wh, rfl, ?_⟩
    have hK := hK (llE ts p (some v) i j (some (ratD (rowR p ts k))) m t (some (.int (und p ts (k + 1) : Nat))) co wh) S' ⟨rfl, _, rfl⟩
    rw [und_succ, Int.natCast_mul] at hK
    revert hK hmul
    unfold ratD fr
    generalize ((und p ts k : Nat) : Int) = uu
    intro hmul hK
    simp [seqS, setS, retS, retN, exprS, nilS, ifS, parS, asgS, bindT, bindTs, bindF, callC, varF, retF, consF, nilF, iteV, truF, truD, notF, andF, orF, andV, orV, notV, chF, chT, bodyEnds, startE, optF, idxF, slcF, intF, noF, newL, tyD, isiT, isiB, lenB, absB, intB, gcdB, tupB, lstB, ltG, leG, gtG, geG, isG, isnG, o2I, isO, getS, addF, subF, mulF, eqG_ii, neG_ii, neG_bb, fdivG, modG, powG, raiseS, wipeE, i1, hmul]
    exact hK
  · rintro τ S' ⟨rfl, c, rfl⟩
    refine ⟨hv, ?_⟩
    rw [rowQ_len, Nat.zero_add]
    exact hn c
theorem ll_whole {v : D} {n : Nat} (hp : Qz 4 p) (hl : ts.length ≤ 5) (hm : ∀ t ∈ ts, TmOk t) (h5 : n ≤ 5) (hv : getS S v = .lst (rowQ p ts n)) {i j c m t co wh : Option D} (hn : E.nx (llE ts p (some v) i j c m t (some (.int (und p ts n : Nat))) co (some (.lst (rowI (wF p ts n) n)))) S) :
    (setS 10 (compF false (itE (varF 2)) (.name 5) (retF true) (binE fdivG (binE (mulF false) (idxE (varF 5) (int! 0)) (varF 8)) (idxE (varF 5) (int! 1))) ([("own", 5)].map (·.2)))) E (llE ts p (some v) i j c m t (some (.int (und p ts n : Nat))) co wh) S := by
  have hs := sizeLine_eq
  simp only [setS]
  refine compF_val (rowQ p ts n) (fun S' => getS S' v = .lst (rowQ p ts n)) (fun _ => true) (fun d => match d with | .tup [.int a, .int b] => .int ((a * (und p ts n : Nat)).fdiv b) | d => d) (fun Q h => ?_) hv (by rw [rowQ_len]; omega) (fun d hd => ?_) ?_
  · simp only [itE, bindF, varF, List.getElem?_cons_succ, List.getElem?_cons_zero, itsF, hv]
    exact h
  · obtain ⟨k, hk, rfl⟩ := List.mem_map.mp hd
    have hk := List.mem_range.mp hk
    have s1 := und_size (p := p) hp hl hm n
    have s2 := (rowR_size hp k ts hm).mono (k := 360) (by omega)
    have s3 : ((und p ts n : Nat) : Int).natAbs < 2 ^ 4000 := by
      rw [Int.natAbs_natCast]
      exact Nat.lt_of_lt_of_le s1 (pow_mono (by omega))
    have hmul : cMul (rowR p ts k).num (und p ts n : Nat) = true := cmul_ok (Nat.lt_of_lt_of_le s2.1 (pow_mono (by omega))) s3
    have hdiv : cDiv ((rowR p ts k).num * (und p ts n : Nat)) ((rowR p ts k).den : Nat) = true := by
      have hd := (rowR p ts k).den_pos
      have hb := Fz.bn s2
      rw [Int.natAbs_natCast] at hb
      have hlog : (rowR p ts k).den.log2 < 9000 := Nat.lt_trans ((Nat.log2_lt (by omega)).mpr hb) (by decide)
      have h1 : ¬ ((((rowR p ts k).den : Nat) : Int) = 0) := by omega
      unfold cDiv
      simp only [Bool.and_eq_true, Bool.not_eq_true', decide_eq_true_eq, decide_eq_false_iff_not, Int.natAbs_natCast]
      exact ⟨h1, hlog⟩
    refine ⟨llE ts p (some v) i j (some (ratD (rowR p ts k))) m t (some (.int (und p ts n : Nat))) co wh, rfl, fun Q h => h, fun _ Q h => ?_⟩
    have h : Q (.int (((rowR p ts k).num * (und p ts n : Nat)).fdiv ((rowR p ts k).den : Nat))) S := h
    revert h hmul hdiv
    unfold ratD fr
    generalize ((und p ts n : Nat) : Int) = uu
    intro hmul hdiv h
    simp [seqS, setS, retS, retN, exprS, nilS, ifS, parS, asgS, bindT, bindTs, bindF, callC, varF, retF, consF, nilF, iteV, truF, truD, notF, andF, orF, andV, orV, notV, chF, chT, bodyEnds, startE, optF, idxF, slcF, intF, noF, newL, tyD, isiT, isiB, lenB, absB, intB, gcdB, tupB, lstB, ltG, leG, gtG, geG, isG, isnG, o2I, isO, getS, addF, subF, mulF, eqG_ii, neG_ii, neG_bb, fdivG, modG, powG, raiseS, wipeE, i0, i1, hmul, hdiv]
    exact h
  · have ef : (rowQ p ts n).filter (fun _ => true) = rowQ p ts n := by simp
    rw [ef]
    have em : (rowQ p ts n).map (fun d => match d with | .tup [.int a, .int b] => D.int ((a * (und p ts n : Nat)).fdiv b) | d => d) = rowI (wF p ts n) n := by
      unfold rowQ rowI
      rw [List.map_map]
      rfl
    rw [em]
    exact hn
theorem ll_common {v : D} {f : Nat → Int} {n : Nat} {i j c m t u : Option D} (hn : ∀ c, E.nx (llE ts p (some v) i j c m t u (some (.int (cont f n : Nat))) (some (.lst (rowI f n)))) S) :
    (forS (itE (varF 10)) (.name 5) (setS 9 (callE cCommon (consF (varF 9) (consF (varF 5) nilF))))) E (llE ts p (some v) i j c m t u (some (.int 0)) (some (.lst (rowI f n)))) S := by
  unfold forS
  simp only [itE, bindF, varF, List.getElem?_cons_succ, List.getElem?_cons_zero, itsF, getS]
  refine forL_inv (fun k τ S' => S' = S ∧ ∃ c, τ = llE ts p (some v) i j c m t u (some (.int (cont f k : Nat))) (some (.lst (rowI f n)))) _ 0 ⟨rfl, c, rfl⟩ ?_ ?_
  · rintro k d hk τ S' K ⟨rfl, c, rfl⟩ hK
    rw [Nat.zero_add] at hK ⊢
    obtain ⟨hkn, rfl⟩ := rowI_get hk
    refine ⟨trivial, llE ts p (some v) i j (some (.int (f k))) m t u (some (.int (cont f k : Nat))) (some (.lst (rowI f n))), rfl, ?_⟩
    simp [seqS, setS, retS, retN, exprS, nilS, ifS, parS, asgS, bindT, bindTs, bindF, callC, varF, retF, consF, nilF, iteV, truF, truD, notF, andF, orF, andV, orV, notV, chF, chT, bodyEnds, startE, optF, idxF, slcF, intF, noF, newL, tyD, isiT, isiB, lenB, absB, intB, gcdB, tupB, lstB, ltG, leG, gtG, geG, isG, isnG, o2I, isO, getS, addF, subF, mulF, eqG_ii, neG_ii, neG_bb, fdivG, modG, powG, raiseS, wipeE]
    refine ⟨_, _, rfl, ?_⟩
    have := hK (llE ts p (some v) i j (some (.int (f k))) m t u (some (.int (cont f (k + 1) : Nat))) (some (.lst (rowI f n)))) S' ⟨rfl, _, rfl⟩
    rw [cont_succ] at this
    simpa using this
  · rintro τ S' ⟨rfl, c, rfl⟩
    refine ⟨trivial, ?_⟩
    rw [rowI_len, Nat.zero_add]
    exact hn c
/-- the sign, the division -/
theorem ll_end {v : D} {n : Nat} {Q : D → Store → Prop} (he : E.rt = Q) (hp : Qz 4 p) (hl : ts.length ≤ 5) (hm : ∀ t ∈ ts, TmOk t) (hn : n = lenT (numR p ts) 5) {i j c m t u : Option D} (hq : Q (.tup (lineT p ts)) S) :
    (seqS (setS 9 (iteV (orF (cmpT eqG (varF 10) (lstE false nilF)) (cmpT gtG (idxE (varF 10) (negE (int! 1))) (int! 0))) (varF 9) (negE (varF 9))))
    (retS (biE tupB (consF (compF false (itE (varF 10)) (.name 5) (retF true) (binE fdivG (varF 5) (varF 9)) ([("own", 5)].map (·.2))) nilF)))) E (llE ts p (some v) i j c m t u (some (.int (cont (wF p ts n) n : Nat))) (some (.lst (rowI (wF p ts n) n)))) S := by
  have hs := sizeLine_eq
  have h5 : n ≤ 5 := by rw [hn]; exact lenT_le _ _
  have hdt := rowI_dat (wF p ts n) n
  have fin : ∀ (k : Int), (n ≠ 0 → ∀ x, cDiv x k = true) → lineT p ts = (List.range n).map (fun j => D.int ((wF p ts n j).fdiv k)) → (retS (biE tupB (consF (compF false (itE (varF 10)) (.name 5) (retF true) (binE fdivG (varF 5) (varF 9)) ([("own", 5)].map (·.2))) nilF))) E (llE ts p (some v) i j c m t u (some (.int k)) (some (.lst (rowI (wF p ts n) n)))) S := by
    intro k hk hlin
    simp only [retS, biE, bindF, consF, nilF]
    refine compF_val (rowI (wF p ts n) n) (fun S' => True) (fun _ => true) (fun d => match d with | .int x => .int (x.fdiv k) | d => d) (fun Q h => ?_) trivial (by rw [rowI_len]; omega) (fun d hd => ?_) ?_
    · simp [seqS, setS, retS, retN, exprS, nilS, ifS, parS, asgS, bindT, bindTs, bindF, callC, varF, retF, consF, nilF, iteV, truF, truD, notF, andF, orF, andV, orV, notV, chF, chT, bodyEnds, startE, optF, idxF, slcF, intF, noF, newL, tyD, isiT, isiB, lenB, absB, intB, gcdB, tupB, lstB, ltG, leG, gtG, geG, isG, isnG, o2I, isO, getS, addF, subF, mulF, eqG_ii, neG_ii, neG_bb, fdivG, modG, powG, raiseS, wipeE, itsF]; exact h
    · obtain ⟨q, hq, rfl⟩ := List.mem_map.mp hd
      have hq := List.mem_range.mp hq
      refine ⟨_, rfl, fun Q h => h, fun _ Q h => ?_⟩
      simp [seqS, setS, retS, retN, exprS, nilS, ifS, parS, asgS, bindT, bindTs, bindF, callC, varF, retF, consF, nilF, iteV, truF, truD, notF, andF, orF, andV, orV, notV, chF, chT, bodyEnds, startE, optF, idxF, slcF, intF, noF, newL, tyD, isiT, isiB, lenB, absB, intB, gcdB, tupB, lstB, ltG, leG, gtG, geG, isG, isnG, o2I, isO, getS, addF, subF, mulF, eqG_ii, neG_ii, neG_bb, fdivG, modG, powG, raiseS, wipeE, hk (by omega)]
      exact h
    · have ef : (rowI (wF p ts n) n).filter (fun _ => true) = rowI (wF p ts n) n := by simp
      rw [ef]
      have em : (rowI (wF p ts n) n).map (fun d => match d with | .int x => D.int (x.fdiv k) | d => d) = (List.range n).map (fun j => D.int ((wF p ts n j).fdiv k)) := by
        unfold rowI
        rw [List.map_map]
        rfl
      rw [em, ← hlin]
      simp [seqS, setS, retS, retN, exprS, nilS, ifS, parS, asgS, bindT, bindTs, bindF, callC, varF, retF, consF, nilF, iteV, truF, truD, notF, andF, orF, andV, orV, notV, chF, chT, bodyEnds, startE, optF, idxF, slcF, intF, noF, newL, tyD, isiT, isiB, lenB, absB, intB, gcdB, tupB, lstB, ltG, leG, gtG, geG, isG, isnG, o2I, isO, getS, addF, subF, mulF, eqG_ii, neG_ii, neG_bb, fdivG, modG, powG, raiseS, wipeE]
      rw [he]
      exact hq
  simp only [seqS, setS, iteV, orF, cmpT, bindF, varF, List.getElem?_cons_succ, List.getElem?_cons_zero, lstE, nilF, retF]
  refine ⟨by simp, ?_⟩
  simp only [newL, Bool.false_eq_true, if_false]
  refine eqG_of (by simp only [datD]; exact hdt.1) rfl (by simp only [depD, hdt.2]; omega) (by simp [depD, depDs]) ?_
  simp only [eqD, rowI_ne]
  by_cases h0 : n = 0
  · subst h0
    simp [seqS, setS, retS, retN, exprS, nilS, ifS, parS, asgS, bindT, bindTs, bindF, callC, varF, retF, consF, nilF, iteV, truF, truD, notF, andF, orF, andV, orV, notV, chF, chT, bodyEnds, startE, optF, idxF, slcF, intF, noF, newL, tyD, isiT, isiB, lenB, absB, intB, gcdB, tupB, lstB, ltG, leG, gtG, geG, isG, isnG, o2I, isO, getS, addF, subF, mulF, eqG_ii, neG_ii, neG_bb, fdivG, modG, powG, raiseS, wipeE]
    refine fin _ (fun z => absurd rfl z) ?_
    rw [line_zero hm hn.symm]
    rfl
  · obtain ⟨hw, hlin⟩ := line_same hm hn h0
    have hsz : (wF p ts n (n - 1)).natAbs < 2 ^ 4000 := by
      have s1 := und_size (p := p) hp hl hm n
      have s2 := (rowR_size hp (n - 1) ts hm).mono (k := 360) (by omega)
      have e1 : ((wF p ts n (n - 1)).natAbs) ≤ ((rowR p ts (n - 1)).num * (und p ts n : Nat)).natAbs := by
        obtain ⟨cc, hcc⟩ := und_dvd (p := p) (ts := ts) (n := n) (j := n - 1) (by omega)
        have hd := (rowR p ts (n - 1)).den_pos
        have e1 : (rowR p ts (n - 1)).num * ((und p ts n : Nat) : Int) = ((rowR p ts (n - 1)).den : Int) * ((rowR p ts (n - 1)).num * cc) := by
          rw [hcc, Int.natCast_mul, ← Int.mul_assoc, Int.mul_comm (rowR p ts (n - 1)).num, Int.mul_assoc]
        have e2 : wF p ts n (n - 1) = (rowR p ts (n - 1)).num * cc := by
          unfold wF
          rw [e1, Int.mul_fdiv_cancel_left _ (by omega)]
        rw [e1, e2, Int.natAbs_mul ((rowR p ts (n - 1)).den : Int), Int.natAbs_natCast]
        exact Nat.le_mul_of_pos_left _ hd
      refine Nat.lt_of_le_of_lt e1 ?_
      rw [Int.natAbs_mul, Int.natAbs_natCast]
      exact Nat.lt_of_lt_of_le (mulN s2.1 s1) (pow_mono (by omega))
    have hdiv := fun x => cont_div h0 hw hsz x
    have hdivn : ∀ x, cDiv x (-(cont (wF p ts n) n : Int)) = true := fun x => by
      have := hdiv x
      unfold cDiv at this ⊢
      simp only [Int.natAbs_neg, Int.neg_eq_zero]
      exact this
    obtain ⟨k, rfl⟩ : ∃ k, n = k + 1 := ⟨n - 1, by omega⟩
    simp [seqS, setS, retS, retN, exprS, nilS, ifS, parS, asgS, bindT, bindTs, bindF, callC, varF, retF, consF, nilF, iteV, truF, truD, notF, andF, orF, andV, orV, notV, chF, chT, bodyEnds, startE, optF, idxF, slcF, intF, noF, newL, tyD, isiT, isiB, lenB, absB, intB, gcdB, tupB, lstB, ltG, leG, gtG, geG, isG, isnG, o2I, isO, getS, addF, subF, mulF, eqG_ii, neG_ii, neG_bb, fdivG, modG, powG, raiseS, wipeE, rowI_last]
    simp only [Nat.add_sub_cancel] at hlin
    by_cases hpz : 0 < wF p ts (k + 1) k
    · rw [if_pos hpz] at hlin
      simp [hpz]
      exact fin _ (fun _ => hdiv) hlin
    · rw [if_neg hpz] at hlin
      simp [hpz]
      exact fin _ (fun _ => hdivn) hlin
end
end LawX

set_option Elab.async false
set_option linter.all false
set_option maxRecDepth 100000
set_option maxHeartbeats 0
set_option exponentiation.threshold 5000
namespace LawX
open PySem PySem.Spec PyProof.Rows L2 Dx
section
variable {E : DEnds} {S : Store} {ts : List Tm} {p : Rat}
theorem ll_row {i j c m t u co wh row : Option D} (hn : E.nx (llE ts p (some (.obj S.length)) i j c m t u co wh) (S ++ [.lst (rowQ p (ts.take 0) 5)])) :
    (setS 2 (binE (mulF true) (lstE false (consF (tupE (consF (int! 0) (consF (int! 1) nilF))) nilF)) (int! 5))) E (llE ts p row i j c m t u co wh) S := by
  have hs := sizeLine_eq
  have z1 : ∀ k : Nat, k ≤ 100 → k ≤ sizeLine := fun k h => by omega
  have e : rowQ p (ts.take 0) 5 = List.replicate 5 (.tup [.int 0, .int 1]) := rfl
  rw [e] at hn
  simp [seqS, setS, retS, retN, exprS, nilS, ifS, parS, asgS, bindT, bindTs, bindF, callC, varF, retF, consF, nilF, iteV, truF, truD, notF, andF, orF, andV, orV, notV, chF, chT, bodyEnds, startE, optF, idxF, slcF, intF, noF, newL, tyD, isiT, isiB, lenB, absB, intB, gcdB, tupB, lstB, ltG, leG, gtG, geG, isG, isnG, o2I, isO, getS, addF, subF, mulF, eqG_ii, neG_ii, neG_bb, fdivG, modG, powG, raiseS, wipeE, z1]
  exact hn
theorem ll_terms (hp : Qz 4 p) (hl : ts.length ≤ 5) (hm : ∀ t ∈ ts, TmOk t) {i j c m t u co wh : Option D} (hn : ∀ i j c m t, E.nx (llE ts p (some (.obj S.length)) i j c m t u co wh) (S ++ [.lst (rowQ p ts 5)])) :
    (forS (itE (varF 0)) (.tup [(.tup [(.name 3), (.name 4)]), (.name 5)]) (seqS (setS 6 (tupE (consF (varF 5) (consF (int! 1) nilF))))
    (seqS (forS (bindF (consF (varF 3) nilF) rng1) (.name 7) (setS 6 (callE cTimes (consF (varF 6) (consF (varF 1) nilF)))))
    (subS (callE cPlus (consF (idxE (varF 2) (varF 4)) (consF (varF 6) nilF))) (varF 2) (varF 4))))) E (llE ts p (some (.obj S.length)) i j c m t u co wh) (S ++ [.lst (rowQ p (ts.take 0) 5)]) := by
  have hs := sizeLine_eq
  have z1 : ∀ k : Nat, k ≤ 100 → k ≤ sizeLine := fun k h => by omega
  unfold forS
  simp only [itE, bindF, varF, List.getElem?_cons_succ, List.getElem?_cons_zero, itsF, getS]
  refine forL_inv (fun n τ S' => S' = S ++ [.lst (rowQ p (ts.take n) 5)] ∧ ∃ i j c m t, τ = llE ts p (some (.obj S.length)) i j c m t u co wh) _ 0 ⟨rfl, _, _, _, _, _, rfl⟩ ?_ ?_
  · rintro k d hk τ S' K ⟨rfl, i', j', c', m', t', rfl⟩ hK
    rw [Nat.zero_add] at hK ⊢
    obtain ⟨t, ht, rfl⟩ := get_tm hk
    have hmem := List.mem_of_getElem? ht
    have tk := hm t hmem
    have hjh : t.2.1 < 5 := by have := tk.1; omega
    have hsub : ∀ u ∈ ts.take k, TmOk u := fun u hu => hm u (List.mem_of_mem_take hu)
    have sz := (rowR_size hp t.2.1 (ts.take k) hsub).mono (k := 500) (by simp only [List.length_take]; omega)
    have o := (own_size tk).q
    rw [qf_one] at o
    have pw : ∀ n, n ≤ 4 → Qz 16 (p ^ n) := fun n hn => by
      have a := (Fz.pow hp (by omega) 4 n hn (by omega)).q
      rw [qf_pow hp.2.1, qf_rat] at a
      exact a
    refine ⟨trivial, llE ts p (some (.obj S.length)) (some (.int t.1)) (some (.int t.2.1)) (some (.int t.2.2)) m' t' u co wh, rfl, ?_⟩
    have hg : L2.atI (rowQ p (ts.take k) 5) (t.2.1 : Int) = some (ratD (rowR p (ts.take k) t.2.1)) := by
      unfold L2.atI L2.ixN
      rw [rowQ_len, if_pos (by omega), if_pos (by omega)]
      simp [rowQ, hjh]
    have hx : L2.ixN (rowQ p (ts.take k) 5).length (t.2.1 : Int) = some t.2.1 := by
      unfold L2.ixN
      rw [rowQ_len, if_pos (by omega), if_pos (by omega)]
      simp
    have hK := fun m t' => hK (llE ts p (some (.obj S.length)) (some (.int t.1)) (some (.int t.2.1)) (some (.int t.2.2)) m t' u co wh) (S ++ [.lst (rowQ p (ts.take (k + 1)) 5)]) ⟨rfl, _, _, _, _, _, rfl⟩
    rw [take_snoc ht, ← set_rowQ] at hK
    revert hK hg hx sz
    generalize rowQ p (ts.take k) 5 = RR
    generalize rowR p (ts.take k) t.2.1 = vv
    intro sz hg hx hK
    simp [seqS, setS, retS, retN, exprS, nilS, ifS, parS, asgS, bindT, bindTs, bindF, callC, varF, retF, consF, nilF, iteV, truF, truD, notF, andF, orF, andV, orV, notV, chF, chT, bodyEnds, startE, optF, idxF, slcF, intF, noF, newL, tyD, isiT, isiB, lenB, absB, intB, gcdB, tupB, lstB, ltG, leG, gtG, geG, isG, isnG, o2I, isO, getS, addF, subF, mulF, eqG_ii, neG_ii, neG_bb, fdivG, modG, powG, raiseS, wipeE, z1, rng1]
    refine ⟨by have := tk.1; simp [smallB]; omega, ?_⟩
    rw [show D.tup [.int t.2.2, .int 1] = ratD ((t.2.2 : Rat) * p ^ 0) by rw [Rat.pow_zero, Rat.mul_one, ratD_int]; rfl]
    refine forL_inv (fun n τ S'' => S'' = S ++ [.lst RR] ∧ ∃ q, τ = llE ts p (some (.obj S.length)) (some (.int t.1)) (some (.int t.2.1)) (some (.int t.2.2)) (some (ratD ((t.2.2 : Rat) * p ^ n))) q u co wh) _ 0 ⟨rfl, _, rfl⟩ ?_ ?_
    · rintro n d hn τ S'' K' ⟨rfl, q, rfl⟩ hK'
      rw [Nat.zero_add] at hK' ⊢
      have hn2 : n < t.1 := (rngItems_get hn).1
      refine ⟨trivial, llE ts p (some (.obj S.length)) (some (.int t.1)) (some (.int t.2.1)) (some (.int t.2.2)) (some (ratD ((t.2.2 : Rat) * p ^ n))) (some d) u co wh, rfl, ?_⟩
      have s2 := o.mul (pw n (by have := tk.1; omega))
      have hK' := hK' (llE ts p (some (.obj S.length)) (some (.int t.1)) (some (.int t.2.1)) (some (.int t.2.2)) (some (ratD ((t.2.2 : Rat) * p ^ (n + 1)))) (some d) u co wh) _ ⟨rfl, _, rfl⟩
      rw [Rat.pow_succ, ← Rat.mul_assoc] at hK'
      revert hK' s2
      generalize (t.2.2 : Rat) * p ^ n = M
      intro s2 hK'
      simp [seqS, setS, retS, retN, exprS, nilS, ifS, parS, asgS, bindT, bindTs, bindF, callC, varF, retF, consF, nilF, iteV, truF, truD, notF, andF, orF, andV, orV, notV, chF, chT, bodyEnds, startE, optF, idxF, slcF, intF, noF, newL, tyD, isiT, isiB, lenB, absB, intB, gcdB, tupB, lstB, ltG, leG, gtG, geG, isG, isnG, o2I, isO, getS, addF, subF, mulF, eqG_ii, neG_ii, neG_bb, fdivG, modG, powG, raiseS, wipeE]
      refine ⟨100, _, _, _, _, rfl, by omega, s2.mono (by omega), hp.mono (by omega), ?_⟩
      rw [qf_rat, qf_rat]
      exact hK'
    · rintro τ S'' ⟨rfl, q, rfl⟩
      refine ⟨trivial, ?_⟩
      simp only [rngItems, List.length_map, List.length_range, Nat.zero_add, Int.toNat_natCast]
      have s3 := o.mul (pw t.1 (by have := tk.1; omega))
      revert hK s3
      generalize (t.2.2 : Rat) * p ^ t.1 = M
      intro hK s3
      simp [subS, seqS, setS, retS, retN, exprS, nilS, ifS, parS, asgS, bindT, bindTs, bindF, callC, varF, retF, consF, nilF, iteV, truF, truD, notF, andF, orF, andV, orV, notV, chF, chT, bodyEnds, startE, optF, idxF, slcF, intF, noF, newL, tyD, isiT, isiB, lenB, absB, intB, gcdB, tupB, lstB, ltG, leG, gtG, geG, isG, isnG, o2I, isO, getS, addF, subF, mulF, eqG_ii, neG_ii, neG_bb, fdivG, modG, powG, raiseS, wipeE, snoc_get, hg]
      refine ⟨500, _, _, _, _, rfl, by omega, sz, s3.mono (by omega), ?_⟩
      rw [qf_rat, qf_rat]
      simp [seqS, setS, retS, retN, exprS, nilS, ifS, parS, asgS, bindT, bindTs, bindF, callC, varF, retF, consF, nilF, iteV, truF, truD, notF, andF, orF, andV, orV, notV, chF, chT, bodyEnds, startE, optF, idxF, slcF, intF, noF, newL, tyD, isiT, isiB, lenB, absB, intB, gcdB, tupB, lstB, ltG, leG, gtG, geG, isG, isnG, o2I, isO, getS, addF, subF, mulF, eqG_ii, neG_ii, neG_bb, fdivG, modG, powG, raiseS, wipeE, snoc_get]
      rw [hx]
      simp
      exact hK _ _
  · rintro τ S' ⟨rfl, i', j', c', m', t', rfl⟩
    refine ⟨trivial, ?_⟩
    have e5 : 0 + (ts.map tmD).length = ts.length := by simp
    rw [e5, List.take_length]
    exact hn _ _ _ _ _
theorem ll_two {v : D} {i j c m t : Option D} {u co wh : Option D} (hn : E.nx (llE ts p (some v) i j c m t (some (.int 1)) (some (.int 0)) wh) S) : (asgS (.tup [(.name 8), (.name 9)]) (tupE (consF (int! 1) (consF (int! 0) nilF)))) E (llE ts p (some v) i j c m t u co wh) S := by
  have hs := sizeLine_eq
  have z1 : ∀ k : Nat, k ≤ 100 → k ≤ sizeLine := fun k h => by omega
  simp [seqS, setS, retS, retN, exprS, nilS, ifS, parS, asgS, bindT, bindTs, bindF, callC, varF, retF, consF, nilF, iteV, truF, truD, notF, andF, orF, andV, orV, notV, chF, chT, bodyEnds, startE, optF, idxF, slcF, intF, noF, newL, tyD, isiT, isiB, lenB, absB, intB, gcdB, tupB, lstB, ltG, leG, gtG, geG, isG, isnG, o2I, isO, getS, addF, subF, mulF, eqG_ii, neG_ii, neG_bb, fdivG, modG, powG, raiseS, wipeE, z1]
  exact hn
end
theorem lln_ok (ds : List D) (S : Store) (Q : D → Store → Prop) (E : QX) (h : cLLn ds S Q E) : fs_law_line cTimes cPlus cCommon (bodyEnds Q E) (startE N_law_line ds) S := by
  obtain ⟨ts, p, rfl, hl, hm, hp, hq⟩ := h
  have h5 : lenT (numR p ts) 5 ≤ 5 := lenT_le _ _
  unfold fs_law_line
  refine ll_row (E := _) (ts := ts) (p := p) (row := none) (i := none) (j := none) (c := none) (m := none) (t := none) (u := none) (co := none) (wh := none) ?_
  refine ll_terms (E := _) hp hl hm fun i j c m t => ?_
  refine ll_while (E := _) (by simp [getS]) fun v hv => ?_
  refine ll_two (E := _) ?_
  refine ll_under (E := _) hp hl hm h5 hv fun c' => ?_
  refine ll_whole (E := _) hp hl hm h5 hv ?_
  refine ll_common (E := _) fun c'' => ?_
  exact ll_end (E := _) rfl hp hl hm rfl (hq _ ⟨_, rfl⟩)
end LawX

set_option Elab.async false
set_option linter.all false
set_option maxRecDepth 100000
set_option maxHeartbeats 0
set_option exponentiation.threshold 5000
namespace LawX
open PySem PySem.Spec PyProof.Rows L2 Dx
/-! ### order of terms -/
theorem lt_tm {t u : Tm} (h : ltD (pairD t.1 t.2.1) (pairD u.1 u.2.1) = true) : ltD (tmD u) (tmD t) = false := by
  have h := pair_lt_iff.mp h
  have h1 : eqD (pairD u.1 u.2.1) (pairD t.1 t.2.1) = false := bfalse fun z => by
    have := (pair_eqD ⟨_, _, rfl⟩ ⟨_, _, rfl⟩).mp z
    have := pair_inj.mp this
    omega
  have h2 : ltD (pairD u.1 u.2.1) (pairD t.1 t.2.1) = false := bfalse fun z => by
    have := pair_lt_iff.mp z
    omega
  have e : ltD (tmD u) (tmD t) = if eqD (pairD u.1 u.2.1) (pairD t.1 t.2.1) = true then ltDs [.int u.2.2] [.int t.2.2] else ltD (pairD u.1 u.2.1) (pairD t.1 t.2.1) := by
    simp only [tmD, ltD, ltDs, Dx.pairD]
  rw [e, h1, if_neg Bool.false_ne_true, h2]
theorem pow_tm (t : Tm) : powD (tmD t) = pairD t.1 t.2.1 := rfl
theorem pows_tm (ts : List Tm) : (ts.map tmD).map powD = ts.map fun t => pairD t.1 t.2.1 := by rw [List.map_map]; rfl
theorem pows_pair (ts : List Tm) : ∀ d ∈ (ts.map tmD).map powD, isPair d := fun d hd => by
  rw [pows_tm] at hd
  obtain ⟨t, _, rfl⟩ := List.mem_map.mp hd
  exact ⟨_, _, rfl⟩
theorem asc_sorted {ts : List Tm} (h : ascB ((ts.map tmD).map powD) = true) : (ts.map tmD).Pairwise (fun x y => ltD y x = false) := by
  have := asc_pw (pows_pair ts) h
  rw [pows_tm, List.pairwise_map] at this
  rw [List.pairwise_map]
  exact this.imp fun h => lt_tm h
def pwT (t : Tm) : Nat × Nat := (t.1, t.2.1)
theorem asc_nodup {ts : List Tm} (h : ascB ((ts.map tmD).map powD) = true) : (ts.map pwT).Nodup := by
  have := asc_pw (pows_pair ts) h
  rw [pows_tm, List.pairwise_map] at this
  refine List.pairwise_map.mpr (this.imp fun {a b} h e => ?_)
  have e : (a.1, a.2.1) = (b.1, b.2.1) := e
  obtain ⟨e1, e2⟩ := Prod.mk.inj e
  have := pair_lt_iff.mp h
  omega
theorem sorted_asc {us : List Tm} (pw : (us.map tmD).Pairwise (fun x y => ltD y x = false)) (nd : (us.map pwT).Nodup) : ascB ((us.map tmD).map powD) = true := by
  refine pw_asc ?_
  rw [pows_tm, List.pairwise_map]
  rw [List.pairwise_map] at pw
  have nd2 := List.pairwise_map.mp nd
  refine (pw.and nd2).imp fun {t u} h => ?_
  cases q : ltD (pairD t.1 t.2.1) (pairD u.1 u.2.1) with
  | true => rfl
  | false =>
    exfalso
    have h3 : ¬ ((t.1 : Int) < u.1 ∨ ((t.1 : Int) = u.1 ∧ (t.2.1 : Int) < u.2.1)) := fun z => by rw [pair_lt_iff.mpr z] at q; cases q
    have hne : ¬ (t.1 = u.1 ∧ t.2.1 = u.2.1) := fun z => h.2 (by unfold pwT; rw [z.1, z.2])
    have hgt : ltD (pairD u.1 u.2.1) (pairD t.1 t.2.1) = true := pair_lt_iff.mpr (by omega)
    have h1 : eqD (pairD u.1 u.2.1) (pairD t.1 t.2.1) = false := bfalse fun z => by
      have := (pair_eqD ⟨_, _, rfl⟩ ⟨_, _, rfl⟩).mp z
      have := pair_inj.mp this
      omega
    have e : ltD (tmD u) (tmD t) = if eqD (pairD u.1 u.2.1) (pairD t.1 t.2.1) = true then ltDs [.int u.2.2] [.int t.2.2] else ltD (pairD u.1 u.2.1) (pairD t.1 t.2.1) := by
      simp only [tmD, ltD, ltDs, Dx.pairD]
    have := h.1
    rw [e, h1, if_neg Bool.false_ne_true, hgt] at this
    cases this
theorem swT_sw (t : Tm) : swT (swT t) = t := rfl
theorem DrawnOk.surf {ts : List Tm} (h : DrawnOk ts) : surfB (.tup (ts.map tmD)) = true := ts_surf (by have := h.1; omega) h.tm h.2.2
theorem vals_bd : ∀ v ∈ vals6, v.natAbs ≤ 1001 := by decide
theorem tms_ok {ts : List Tm} (hl : ts.length ≤ 5) (hb : ∀ t ∈ ts, t.1 + t.2.1 ≤ 4 ∧ t.2.2.natAbs ≤ 1000000) : okD 15 (.tup (ts.map tmD)) = true ∧ depD (.tup (ts.map tmD)) ≤ 3 ∧ intsB (.tup (ts.map tmD)) = true := by
  refine ⟨okD_tup.mpr ⟨by simp; omega, fun d hd => ?_⟩, depD_tup.mpr fun d hd => ?_, ?_⟩
  · obtain ⟨t, ht, rfl⟩ := List.mem_map.mp hd
    obtain ⟨b1, b2⟩ := hb t ht
    have : (1000000 : Nat) < 2 ^ 4000 := by decide
    refine okD_tup.mpr ⟨by simp, fun z hz => ?_⟩
    simp only [List.mem_cons, List.not_mem_nil, or_false] at hz
    rcases hz with rfl | rfl
    · refine okD_tup.mpr ⟨by simp, fun z hz => ?_⟩
      simp only [List.mem_cons, List.not_mem_nil, or_false] at hz
      rcases hz with rfl | rfl
      · exact okD_int.mpr (by omega)
      · exact okD_int.mpr (by omega)
    · exact okD_int.mpr (by omega)
  · obtain ⟨t, ht, rfl⟩ := List.mem_map.mp hd
    simp [tmD, depD, depDs]
  · simp only [intsB]
    induction ts with
    | nil => rfl
    | cons t ts ih =>
      simp only [List.map_cons, intsBs]
      rw [ih (by simp at hl; omega) fun u hu => hb u (by simp [hu])]
      rfl
theorem DrawnOk.bd {ts : List Tm} (h : DrawnOk ts) : ∀ t ∈ ts, t.1 + t.2.1 ≤ 4 ∧ t.2.2.natAbs ≤ 1000000 := fun t ht => by
  obtain ⟨a, b⟩ := h.2.1 t ht
  have := vals_bd _ b
  exact ⟨a, by omega⟩
theorem Turned.len {ts us : List Tm} (h : Turned ts us) : us.length = ts.length := by rw [h.1.length_eq, List.length_map]
theorem Turned.mem {ts us : List Tm} (h : Turned ts us) {u : Tm} (hu : u ∈ us) : ∃ t ∈ ts, u = swT t := by
  obtain ⟨t, ht, rfl⟩ := List.mem_map.mp (h.1.mem_iff.mp hu)
  exact ⟨t, ht, rfl⟩
theorem Turned.surf {ts us : List Tm} (h : Turned ts us) (d : DrawnOk ts) : surfB (.tup (us.map tmD)) = true := by
  refine ts_surf (by have := h.len; have := d.1; omega) (fun u hu => ?_) (sorted_asc h.2 ?_)
  · obtain ⟨t, ht, rfl⟩ := h.mem hu
    obtain ⟨a, b, c⟩ := d.tm t ht
    exact ⟨by simp only [swT]; omega, b, c⟩
  · have p := h.1.map pwT
    rw [List.map_map] at p
    refine p.nodup_iff.mpr ?_
    have nd := asc_nodup d.2.2
    have nd2 := List.pairwise_map.mp nd
    exact List.pairwise_map.mpr (nd2.imp fun {a b} hne e => hne (by
      have e : (a.2.1, a.1) = (b.2.1, b.1) := e
      obtain ⟨e1, e2⟩ := Prod.mk.inj e
      unfold pwT
      rw [e1, e2]))
theorem Turned.bd {ts us : List Tm} (h : Turned ts us) (d : DrawnOk ts) : us.length ≤ 5 ∧ ∀ t ∈ us, t.1 + t.2.1 ≤ 4 ∧ t.2.2.natAbs ≤ 1000000 := by
  refine ⟨by have := h.len; have := d.1; omega, fun u hu => ?_⟩
  obtain ⟨t, ht, rfl⟩ := h.mem hu
  obtain ⟨a, b⟩ := d.bd t ht
  exact ⟨by simp only [swT]; omega, b⟩
theorem Turned.one {ts us vs : List Tm} (h : Turned ts us) (h' : Turned ts vs) : us = vs := sorted_one (h.1.trans h'.1.symm) h.2 h'.2
theorem Turned.back {ts us vs : List Tm} (h : Turned ts us) (h' : Turned us vs) (d : DrawnOk ts) : vs = ts := by
  refine sorted_one (h'.1.trans ?_) h'.2 (asc_sorted d.2.2)
  have p := h.1.map swT
  rw [List.map_map] at p
  have e : (swT ∘ swT) = id := funext swT_sw
  rw [e, List.map_id] at p
  exact p
/-! ### what a plain line is made of -/
theorem prim_bd {f : Nat → Int} {n B : Nat} (h : ∀ j, j < n → (f j).natAbs ≤ B) (h0 : n ≠ 0) (hz : f (n - 1) ≠ 0) : ∀ x ∈ primT f n, x.natAbs ≤ B := by
  intro x hx
  have hp := cont_pos (f := f) (n := n) (j := n - 1) (by omega) hz
  have key : ∀ j, j < n → ((f j).fdiv (cont f n)).natAbs ≤ B := fun j hj => by
    obtain ⟨q, q1, q2, _⟩ := fdiv_ex hp (cont_dvd (f := f) hj)
    rw [q2]
    have := h j hj
    rw [q1, Int.natAbs_mul, Int.natAbs_natCast] at this
    exact Nat.le_trans (Nat.le_mul_of_pos_left _ hp) this
  unfold primT at hx
  split at hx
  · obtain ⟨j, hj, rfl⟩ := List.mem_map.mp hx
    exact key j (List.mem_range.mp hj)
  · obtain ⟨y, hy, rfl⟩ := List.mem_map.mp hx
    obtain ⟨j, hj, rfl⟩ := List.mem_map.mp hy
    rw [Int.natAbs_neg]
    exact key j (List.mem_range.mp hj)
theorem line_dat {p : Rat} {ts : List Tm} (hp : Qz 4 p) (hl : ts.length ≤ 5) (hm : ∀ t ∈ ts, TmOk t) : okD 15 (.tup (lineT p ts)) = true ∧ depD (.tup (lineT p ts)) ≤ 3 ∧ intsB (.tup (lineT p ts)) = true := by
  obtain ⟨t1, _, _⟩ := top_le hm
  obtain ⟨g1, _, _⟩ := hi_le hm
  have hn := lenT_le (rowF p.num p.den (topT ts) ts) (hiT ts)
  have hb : ∀ x ∈ primT (rowF p.num p.den (topT ts) ts) (lenT (rowF p.num p.den (topT ts) ts) (hiT ts)), x.natAbs ≤ 5 * 2 ^ 60 := by
    by_cases h0 : lenT (rowF p.num p.den (topT ts) ts) (hiT ts) = 0
    · rw [h0, primT_zero]
      intro x hx; cases hx
    · obtain ⟨k, hk⟩ : ∃ k, lenT (rowF p.num p.den (topT ts) ts) (hiT ts) = k + 1 := ⟨_, (Nat.succ_pred_eq_of_ne_zero h0).symm⟩
      refine prim_bd (fun j _ => Nat.le_trans (rowF_bd j hp.1 (Fz.bn hp) t1 ts hm) (Nat.mul_le_mul_right _ hl)) h0 ?_
      rw [hk]
      exact lenT_nz hk
  have hlen : (primT (rowF p.num p.den (topT ts) ts) (lenT (rowF p.num p.den (topT ts) ts) (hiT ts))).length ≤ 5 := by
    unfold primT
    split <;> simp <;> omega
  have all : ∀ d ∈ lineT p ts, ∃ i : Int, d = .int i ∧ i.natAbs ≤ 5 * 2 ^ 60 := fun d hd => by
    obtain ⟨i, hi, rfl⟩ := List.mem_map.mp hd
    exact ⟨i, rfl, hb i hi⟩
  refine ⟨okD_tup.mpr ⟨by unfold lineT; simp; omega, fun d hd => ?_⟩, depD_tup.mpr fun d hd => ?_, ?_⟩
  · obtain ⟨i, rfl, h⟩ := all d hd
    exact okD_int.mpr (Nat.lt_of_le_of_lt h (by decide))
  · obtain ⟨i, rfl, h⟩ := all d hd
    simp [depD]
  · simp only [intsB]
    unfold lineT
    generalize primT (rowF p.num p.den (topT ts) ts) (lenT (rowF p.num p.den (topT ts) ts) (hiT ts)) = l
    induction l with
    | nil => rfl
    | cons a l ih => simp only [List.map_cons, intsBs, intsB, Bool.true_and]; exact ih
theorem rat_dat {k : Nat} {q : Rat} (h : Qz k q) (hk : k ≤ 4000) : okD 15 (ratD q) = true ∧ depD (ratD q) ≤ 3 ∧ intsB (ratD q) = true := by
  refine ⟨okD_tup.mpr ⟨by simp, fun z hz => ?_⟩, by simp [ratD, fr, depD, depDs], rfl⟩
  simp only [List.mem_cons, List.not_mem_nil, or_false] at hz
  rcases hz with rfl | rfl
  · exact okD_int.mpr (Nat.lt_of_lt_of_le h.1 (pow_mono hk))
  · exact okD_int.mpr (Nat.lt_of_lt_of_le (Fz.bn h) (pow_mono hk))
theorem val_size {ts : List Tm} {p q : Rat} (hl : ts.length ≤ 5) (h : ∀ t ∈ ts, TmOk t) (hp : Qz 4 p) (hq : Qz 4 q) : Qz 500 (valT p q ts) := by
  have := val_step h hp hq ts.length (Nat.le_refl _)
  rw [List.take_length] at this
  exact this.mono (by omega)
end LawX

set_option Elab.async false
set_option linter.all false
set_option maxRecDepth 100000
set_option maxHeartbeats 0
set_option exponentiation.threshold 5000
namespace LawX
open PySem PySem.Spec PyProof.Rows L2 Dx
abbrev vaE (s t sf x y dg ot sm ci fl od mo wd : Option D) : Dx.Env := [s, some (.obj 0), t, sf, x, y, dg, ot, sm, ci, fl, od, mo, wd, none, none, none, none, none]
theorem cup_snoc {n : Nat} {S S' : Store} (hc : Cup n S) (h : ∃ x, S' = S ++ [x]) : Cup n S' := by
  obtain ⟨x, rfl⟩ := h
  obtain ⟨a, b, e⟩ := hc
  have hl := (List.getElem?_eq_some_iff.mp e).1
  exact ⟨a, b, by rw [List.getElem?_append_left hl]; exact e⟩
section
variable {E : DEnds} {S : Store} {s t sf x y dg ot sm ci fl od mo wd : Option D}
theorem va0 (hc : Cup 0 S) (hn : ∀ (ts : List Tm) (p q : Rat) S', DrawnOk ts → Qz 4 p → Qz 4 q → isFrac (ratD p) = true → isFrac (ratD q) = true → Cup 0 S' → E.nx (vaE s t (some (.tup (ts.map tmD))) (some (ratD p)) (some (ratD q)) dg ot sm ci fl od mo wd) S') :
    fslaw_0 cDrawn cLFrac E (vaE s t sf x y dg ot sm ci fl od mo wd) S := by
  simp [fslaw_0, seqS, setS, retS, retN, exprS, nilS, ifS, parS, asgS, bindT, bindTs, bindF, callC, varF, retF, consF, nilF, iteV, truF, truD, notF, andF, orF, andV, orV, notV, chF, chT, bodyEnds, startE, optF, idxF, slcF, intF, noF, newL, tyD, isiT, isiB, lenB, absB, intB, gcdB, tupB, lstB, ltG, leG, gtG, geG, isG, isnG, o2I, isO, getS, addF, subF, mulF, eqG_ii, neG_ii, neG_bb, fdivG, modG, powG, raiseS, wipeE, par3S]
  refine ⟨0, rfl, hc, fun ts S1 hd c1 => ?_⟩
  refine ⟨0, rfl, c1, fun a b S2 h1 h2 h3 h4 r2 => ?_⟩
  refine ⟨0, rfl, r2.cup, fun a' b' S3 i1 i2 i3 i4 r3 => ?_⟩
  have q1 := (made_ok2 (a := a) (b := b) (by omega) (by omega) (by omega) 4 (by omega)).2.2.1
  have q2 := (made_ok2 (a := a') (b := b') (by omega) (by omega) (by omega) 4 (by omega)).2.2.1
  rw [madeD_rat (by omega)] at q1 ⊢
  rw [madeD_rat (by omega)] at q2 ⊢
  exact hn ts _ _ _ hd (Fz.q ⟨by omega, by omega, by omega⟩) (Fz.q ⟨by omega, by omega, by omega⟩) q1 q2 r3.cup
theorem va1 {ts : List Tm} (hl : ts.length ≤ 5) (hn : E.nx (vaE s t (some (.tup (ts.map tmD))) x y (some (.int (degT ts))) ot sm ci fl od mo wd) S) :
    fslaw_1 E (vaE s t (some (.tup (ts.map tmD))) x y dg ot sm ci fl od mo wd) S := by
  have hs := sizeLine_eq
  have z1 : ∀ k : Nat, k ≤ 100 → k ≤ sizeLine := fun k h => by omega
  simp [fslaw_1, seqS, setS, retS, retN, exprS, nilS, ifS, parS, asgS, bindT, bindTs, bindF, callC, varF, retF, consF, nilF, iteV, truF, truD, notF, andF, orF, andV, orV, notV, chF, chT, bodyEnds, startE, optF, idxF, slcF, intF, noF, newL, tyD, isiT, isiB, lenB, absB, intB, gcdB, tupB, lstB, ltG, leG, gtG, geG, isG, isnG, o2I, isO, getS, addF, subF, mulF, eqG_ii, neG_ii, neG_bb, fdivG, modG, powG, raiseS, wipeE, z1]
  refine compF_val (ts.map tmD) (fun _ => True) (fun _ => true) (fun d => .int (((tmOf d).1 : Int) + (tmOf d).2.1)) (fun Q h => ?_) trivial (by simp; omega) (fun d hd => ?_) ?_
  · simp [seqS, setS, retS, retN, exprS, nilS, ifS, parS, asgS, bindT, bindTs, bindF, callC, varF, retF, consF, nilF, iteV, truF, truD, notF, andF, orF, andV, orV, notV, chF, chT, bodyEnds, startE, optF, idxF, slcF, intF, noF, newL, tyD, isiT, isiB, lenB, absB, intB, gcdB, tupB, lstB, ltG, leG, gtG, geG, isG, isnG, o2I, isO, getS, addF, subF, mulF, eqG_ii, neG_ii, neG_bb, fdivG, modG, powG, raiseS, wipeE, itsF]; exact h
  · obtain ⟨u, hu, rfl⟩ := List.mem_map.mp hd
    refine ⟨_, rfl, fun Q h => h, fun _ Q h => ?_⟩
    rw [tmOf_tm] at h
    simp [seqS, setS, retS, retN, exprS, nilS, ifS, parS, asgS, bindT, bindTs, bindF, callC, varF, retF, consF, nilF, iteV, truF, truD, notF, andF, orF, andV, orV, notV, chF, chT, bodyEnds, startE, optF, idxF, slcF, intF, noF, newL, tyD, isiT, isiB, lenB, absB, intB, gcdB, tupB, lstB, ltG, leG, gtG, geG, isG, isnG, o2I, isO, getS, addF, subF, mulF, eqG_ii, neG_ii, neG_bb, fdivG, modG, powG, raiseS, wipeE]
    exact h
  · have ef : (ts.map tmD).filter (fun _ => true) = ts.map tmD := by simp
    rw [ef, map_tm (g := fun t => .int ((t.1 : Int) + t.2.1)) fun t => by rw [tmOf_tm]]
    simp [seqS, setS, retS, retN, exprS, nilS, ifS, parS, asgS, bindT, bindTs, bindF, callC, varF, retF, consF, nilF, iteV, truF, truD, notF, andF, orF, andV, orV, notV, chF, chT, bodyEnds, startE, optF, idxF, slcF, intF, noF, newL, tyD, isiT, isiB, lenB, absB, intB, gcdB, tupB, lstB, ltG, leG, gtG, geG, isG, isnG, o2I, isO, getS, addF, subF, mulF, eqG_ii, neG_ii, neG_bb, fdivG, modG, powG, raiseS, wipeE]
    refine ⟨by omega, ?_⟩
    have e2 : allSome asInt (.int (-1) :: ts.map fun t : Tm => D.int ((t.1 : Int) + t.2.1)) = some (-1 :: ts.map fun t => (t.1 : Int) + t.2.1) := by
      simp [allSome, asInt, allInt_map]
    have e3 : ∀ (xs : List D) (τ : Dx.Env) (Q : D → Store → Prop) (E : QX), allSome asInt xs = some (-1 :: ts.map fun t => (t.1 : Int) + t.2.1) → Q (.int (degT ts)) S → maxB [.lst xs] τ S Q E := fun xs τ Q E h hq => by
      unfold maxB optF
      simp only [getS, h]
      exact hq
    exact e3 _ _ _ _ e2 hn
theorem deg_bd {ts : List Tm} (h : ∀ t ∈ ts, t.1 + t.2.1 ≤ 4) : -1 ≤ degT ts ∧ degT ts ≤ 4 := by
  obtain ⟨a1, a2, a3⟩ := maxL_ge (ts.map fun t => (t.1 : Int) + t.2.1) (-1)
  refine ⟨a1, ?_⟩
  unfold degT
  rcases a3 with q | q
  · rw [q]; decide
  · obtain ⟨t, ht, q⟩ := List.mem_map.mp q
    have := h t ht
    omega
theorem va_deg {ts : List Tm} (hd : DrawnOk ts) (hn : E.nx (vaE s t (some (.tup (ts.map tmD))) x y (some (.int (degT ts))) ot sm ci fl od mo wd) S) :
    (ifS (notF (truT (callE (cAlike 3) (consF (callE cTot (consF (varF 3) nilF)) (consF (varF 6) nilF))))) (retS (bl! false)) nilS) E (vaE s t (some (.tup (ts.map tmD))) x y (some (.int (degT ts))) ot sm ci fl od mo wd) S := by
  obtain ⟨o1, o2, o3⟩ := tms_ok hd.1 hd.bd
  obtain ⟨b1, b2⟩ := deg_bd fun t ht => (hd.bd t ht).1
  simp [seqS, setS, retS, retN, exprS, nilS, ifS, parS, asgS, bindT, bindTs, bindF, callC, varF, retF, consF, nilF, iteV, truF, truD, notF, andF, orF, andV, orV, notV, chF, chT, bodyEnds, startE, optF, idxF, slcF, intF, noF, newL, tyD, isiT, isiB, lenB, absB, intB, gcdB, tupB, lstB, ltG, leG, gtG, geG, isG, isnG, o2I, isO, getS, addF, subF, mulF, eqG_ii, neG_ii, neG_bb, fdivG, modG, powG, raiseS, wipeE]
  refine ⟨_, 15, rfl, o1, by omega, fun _ => ?_, fun z => by rw [hd.surf] at z; cases z⟩
  rw [tsOf_ts]
  have : (4 : Nat) < 2 ^ 4000 := by decide
  refine ⟨_, 15, rfl, rfl, by simp [depD], by omega, okD_int.mpr (by omega), by omega, ?_⟩
  simp [seqS, setS, retS, retN, exprS, nilS, ifS, parS, asgS, bindT, bindTs, bindF, callC, varF, retF, consF, nilF, iteV, truF, truD, notF, andF, orF, andV, orV, notV, chF, chT, bodyEnds, startE, optF, idxF, slcF, intF, noF, newL, tyD, isiT, isiB, lenB, absB, intB, gcdB, tupB, lstB, ltG, leG, gtG, geG, isG, isnG, o2I, isO, getS, addF, subF, mulF, eqG_ii, neG_ii, neG_bb, fdivG, modG, powG, raiseS, wipeE]
  exact hn
theorem va2 {ts : List Tm} {p q : Rat} (hd : DrawnOk ts) (hp : Qz 4 p) (hq : Qz 4 q) (fp : isFrac (ratD p) = true) (fq : isFrac (ratD q) = true) (hn : E.nx (vaE s t (some (.tup (ts.map tmD))) (some (ratD p)) (some (ratD q)) dg ot sm ci fl od mo wd) S) :
    fslaw_2 (cAlike 3) cValAt cVal E (vaE s t (some (.tup (ts.map tmD))) (some (ratD p)) (some (ratD q)) dg ot sm ci fl od mo wd) S := by
  obtain ⟨o1, o2, o3⟩ := tms_ok hd.1 hd.bd
  obtain ⟨v1, v2, v3⟩ := rat_dat (val_size hd.1 hd.tm hp hq) (by omega)
  simp [fslaw_2, seqS, setS, retS, retN, exprS, nilS, ifS, parS, asgS, bindT, bindTs, bindF, callC, varF, retF, consF, nilF, iteV, truF, truD, notF, andF, orF, andV, orV, notV, chF, chT, bodyEnds, startE, optF, idxF, slcF, intF, noF, newL, tyD, isiT, isiB, lenB, absB, intB, gcdB, tupB, lstB, ltG, leG, gtG, geG, isG, isnG, o2I, isO, getS, addF, subF, mulF, eqG_ii, neG_ii, neG_bb, fdivG, modG, powG, raiseS, wipeE]
  refine ⟨_, _, _, 15, rfl, o1, by omega, (rat_dat hp (by omega)).1, (rat_dat hq (by omega)).1, fun z => (by rw [hd.surf] at z; cases z), fun _ z => (by rw [fp] at z; cases z), fun _ _ z => (by rw [fq] at z; cases z), fun _ _ _ => ⟨ts, p, q, rfl, rfl, rfl, hd.1, hd.tm, hp, hq, ?_⟩⟩
  refine ⟨ts, p, q, rfl, hd.1, hd.tm, hp, hq, ?_⟩
  refine ⟨_, 15, rfl, v3, v2, by omega, v1, by omega, ?_⟩
  simp [seqS, setS, retS, retN, exprS, nilS, ifS, parS, asgS, bindT, bindTs, bindF, callC, varF, retF, consF, nilF, iteV, truF, truD, notF, andF, orF, andV, orV, notV, chF, chT, bodyEnds, startE, optF, idxF, slcF, intF, noF, newL, tyD, isiT, isiB, lenB, absB, intB, gcdB, tupB, lstB, ltG, leG, gtG, geG, isG, isnG, o2I, isO, getS, addF, subF, mulF, eqG_ii, neG_ii, neG_bb, fdivG, modG, powG, raiseS, wipeE]
  exact hn
theorem va3 {ts : List Tm} {p : Rat} (hc : Cup 0 S) (hd : DrawnOk ts) (hp : Qz 4 p) (fp : isFrac (ratD p) = true) (hn : ∀ S', Cup 0 S' → E.nx (vaE s t (some (.tup (ts.map tmD))) (some (ratD p)) y dg ot sm ci fl od mo wd) S') :
    fslaw_3 (cAlike 3) cLineOn cLLn E (vaE s t (some (.tup (ts.map tmD))) (some (ratD p)) y dg ot sm ci fl od mo wd) S := by
  obtain ⟨o1, o2, o3⟩ := tms_ok hd.1 hd.bd
  obtain ⟨v1, v2, v3⟩ := line_dat hp hd.1 hd.tm
  simp [fslaw_3, seqS, setS, retS, retN, exprS, nilS, ifS, parS, asgS, bindT, bindTs, bindF, callC, varF, retF, consF, nilF, iteV, truF, truD, notF, andF, orF, andV, orV, notV, chF, chT, bodyEnds, startE, optF, idxF, slcF, intF, noF, newL, tyD, isiT, isiB, lenB, absB, intB, gcdB, tupB, lstB, ltG, leG, gtG, geG, isG, isnG, o2I, isO, getS, addF, subF, mulF, eqG_ii, neG_ii, neG_bb, fdivG, modG, powG, raiseS, wipeE]
  refine ⟨_, _, 15, rfl, o1, by omega, (rat_dat hp (by omega)).1, fun z => (by rw [hd.surf] at z; cases z), fun _ z => (by rw [fp] at z; cases z), fun _ _ => ⟨ts, p, rfl, rfl, hd.1, hd.tm, hp, fun S1 h1 => ?_⟩⟩
  refine ⟨ts, p, rfl, hd.1, hd.tm, hp, fun S2 h2 => ?_⟩
  refine ⟨_, 15, rfl, v3, v2, by omega, v1, by omega, ?_⟩
  simp [seqS, setS, retS, retN, exprS, nilS, ifS, parS, asgS, bindT, bindTs, bindF, callC, varF, retF, consF, nilF, iteV, truF, truD, notF, andF, orF, andV, orV, notV, chF, chT, bodyEnds, startE, optF, idxF, slcF, intF, noF, newL, tyD, isiT, isiB, lenB, absB, intB, gcdB, tupB, lstB, ltG, leG, gtG, geG, isG, isnG, o2I, isO, getS, addF, subF, mulF, eqG_ii, neG_ii, neG_bb, fdivG, modG, powG, raiseS, wipeE]
  exact hn S2 (cup_snoc (cup_snoc hc h1) h2)
theorem va_turn {ts : List Tm} (hd : DrawnOk ts) (hn : ∀ us, Turned ts us → E.nx (vaE s t (some (.tup (ts.map tmD))) x y dg (some (.tup (us.map tmD))) sm ci fl od mo wd) S) :
    (setS 7 (callE cTurned (consF (varF 3) nilF))) E (vaE s t (some (.tup (ts.map tmD))) x y dg ot sm ci fl od mo wd) S := by
  obtain ⟨o1, o2, o3⟩ := tms_ok hd.1 hd.bd
  simp [seqS, setS, retS, retN, exprS, nilS, ifS, parS, asgS, bindT, bindTs, bindF, callC, varF, retF, consF, nilF, iteV, truF, truD, notF, andF, orF, andV, orV, notV, chF, chT, bodyEnds, startE, optF, idxF, slcF, intF, noF, newL, tyD, isiT, isiB, lenB, absB, intB, gcdB, tupB, lstB, ltG, leG, gtG, geG, isG, isnG, o2I, isO, getS, addF, subF, mulF, eqG_ii, neG_ii, neG_bb, fdivG, modG, powG, raiseS, wipeE]
  refine ⟨_, 15, rfl, o1, by omega, fun _ us hu => ?_, fun z => by rw [hd.surf] at z; cases z⟩
  rw [tsOf_ts] at hu
  exact hn us hu
theorem va4 {ts us : List Tm} (hd : DrawnOk ts) (hu : Turned ts us) (hn : E.nx (vaE s t (some (.tup (ts.map tmD))) x y dg (some (.tup (us.map tmD))) sm ci fl od mo wd) S) :
    fslaw_4 (cAlike 3) E (vaE s t (some (.tup (ts.map tmD))) x y dg (some (.tup (us.map tmD))) sm ci fl od mo wd) S := by
  have hs := sizeLine_eq
  have z1 : ∀ k : Nat, k ≤ 100 → k ≤ sizeLine := fun k h => by omega
  obtain ⟨l5, hb⟩ := hu.bd hd
  obtain ⟨o1, o2, o3⟩ := tms_ok l5 hb
  simp only [fslaw_4, ifS, notF, truT, callE, biE, bindF, consF, nilF, varF, List.getElem?_cons_succ, List.getElem?_cons_zero]
  refine compF_val (ts.map tmD) (fun _ => True) (fun _ => true) (fun d => tmD (swT (tmOf d))) (fun Q h => ?_) trivial (by have := hd.1; simp; omega) (fun d hd2 => ?_) ?_
  · simp [seqS, setS, retS, retN, exprS, nilS, ifS, parS, asgS, bindT, bindTs, bindF, callC, varF, retF, consF, nilF, iteV, truF, truD, notF, andF, orF, andV, orV, notV, chF, chT, bodyEnds, startE, optF, idxF, slcF, intF, noF, newL, tyD, isiT, isiB, lenB, absB, intB, gcdB, tupB, lstB, ltG, leG, gtG, geG, isG, isnG, o2I, isO, getS, addF, subF, mulF, eqG_ii, neG_ii, neG_bb, fdivG, modG, powG, raiseS, wipeE, itsF]; exact h
  · obtain ⟨u, hu2, rfl⟩ := List.mem_map.mp hd2
    refine ⟨_, rfl, fun Q h => h, fun _ Q h => ?_⟩
    rw [tmOf_tm] at h
    simp [seqS, setS, retS, retN, exprS, nilS, ifS, parS, asgS, bindT, bindTs, bindF, callC, varF, retF, consF, nilF, iteV, truF, truD, notF, andF, orF, andV, orV, notV, chF, chT, bodyEnds, startE, optF, idxF, slcF, intF, noF, newL, tyD, isiT, isiB, lenB, absB, intB, gcdB, tupB, lstB, ltG, leG, gtG, geG, isG, isnG, o2I, isO, getS, addF, subF, mulF, eqG_ii, neG_ii, neG_bb, fdivG, modG, powG, raiseS, wipeE, z1]
    exact h
  · have ef : (ts.map tmD).filter (fun _ => true) = ts.map tmD := by simp
    rw [ef, map_tm (g := fun t => tmD (swT t)) fun t => by rw [tmOf_tm]]
    have e2 : (ts.map fun t => tmD (swT t)) = (ts.map swT).map tmD := by rw [List.map_map]; rfl
    rw [e2]
    simp only [retF, sortB, srcS]
    refine ⟨fit_tms _, fun es p pw => ?_⟩
    obtain ⟨vs, rfl, p2⟩ := perm_tms p
    have e : vs = us := Turned.one ⟨p2, pw⟩ hu
    subst e
    simp [seqS, setS, retS, retN, exprS, nilS, ifS, parS, asgS, bindT, bindTs, bindF, callC, varF, retF, consF, nilF, iteV, truF, truD, notF, andF, orF, andV, orV, notV, chF, chT, bodyEnds, startE, optF, idxF, slcF, intF, noF, newL, tyD, isiT, isiB, lenB, absB, intB, gcdB, tupB, lstB, ltG, leG, gtG, geG, isG, isnG, o2I, isO, getS, addF, subF, mulF, eqG_ii, neG_ii, neG_bb, fdivG, modG, powG, raiseS, wipeE]
    refine ⟨_, 15, rfl, o3, o2, by omega, o1, by omega, ?_⟩
    simp [seqS, setS, retS, retN, exprS, nilS, ifS, parS, asgS, bindT, bindTs, bindF, callC, varF, retF, consF, nilF, iteV, truF, truD, notF, andF, orF, andV, orV, notV, chF, chT, bodyEnds, startE, optF, idxF, slcF, intF, noF, newL, tyD, isiT, isiB, lenB, absB, intB, gcdB, tupB, lstB, ltG, leG, gtG, geG, isG, isnG, o2I, isO, getS, addF, subF, mulF, eqG_ii, neG_ii, neG_bb, fdivG, modG, powG, raiseS, wipeE]
    exact hn
theorem va_back {ts us : List Tm} (hd : DrawnOk ts) (hu : Turned ts us) (hn : E.nx (vaE s t (some (.tup (ts.map tmD))) x y dg (some (.tup (us.map tmD))) sm ci fl od mo wd) S) :
    (ifS (cmpT neG (callE cTurned (consF (varF 7) nilF)) (varF 3)) (retS (bl! false)) nilS) E (vaE s t (some (.tup (ts.map tmD))) x y dg (some (.tup (us.map tmD))) sm ci fl od mo wd) S := by
  obtain ⟨l5, hb⟩ := hu.bd hd
  obtain ⟨o1, o2, o3⟩ := tms_ok l5 hb
  obtain ⟨t1, t2, t3⟩ := tms_ok hd.1 hd.bd
  simp [seqS, setS, retS, retN, exprS, nilS, ifS, parS, asgS, bindT, bindTs, bindF, callC, varF, retF, consF, nilF, iteV, truF, truD, notF, andF, orF, andV, orV, notV, chF, chT, bodyEnds, startE, optF, idxF, slcF, intF, noF, newL, tyD, isiT, isiB, lenB, absB, intB, gcdB, tupB, lstB, ltG, leG, gtG, geG, isG, isnG, o2I, isO, getS, addF, subF, mulF, eqG_ii, neG_ii, neG_bb, fdivG, modG, powG, raiseS, wipeE]
  refine ⟨_, 15, rfl, o1, by omega, fun _ vs hv => ?_, fun z => by rw [hu.surf hd] at z; cases z⟩
  rw [tsOf_ts] at hv
  rw [hu.back hv hd]
  refine neG_of (okD_dat t1) (okD_dat t1) (by omega) (by omega) ?_
  rw [ints_eqD _ t3]
  simp [seqS, setS, retS, retN, exprS, nilS, ifS, parS, asgS, bindT, bindTs, bindF, callC, varF, retF, consF, nilF, iteV, truF, truD, notF, andF, orF, andV, orV, notV, chF, chT, bodyEnds, startE, optF, idxF, slcF, intF, noF, newL, tyD, isiT, isiB, lenB, absB, intB, gcdB, tupB, lstB, ltG, leG, gtG, geG, isG, isnG, o2I, isO, getS, addF, subF, mulF, eqG_ii, neG_ii, neG_bb, fdivG, modG, powG, raiseS, wipeE]
  exact hn
def smallB (ts : List Tm) : Bool := eqD (.lst (((ts.map tmD).filter fun d => decide (1000 < (tmOf d).2.2)).map fun d => .int (tmOf d).2.2)) (.lst [])
theorem va5 {ts : List Tm} (hd : DrawnOk ts) (hn : E.nx (vaE s t (some (.tup (ts.map tmD))) x y dg ot (some (.bl (LawX.smallB ts))) ci fl od mo wd) S) :
    fslaw_5 E (vaE s t (some (.tup (ts.map tmD))) x y dg ot sm ci fl od mo wd) S := by
  have hs := sizeLine_eq
  have z1 : ∀ k : Nat, k ≤ 100 → k ≤ sizeLine := fun k h => by omega
  simp only [fslaw_5, setS, binE, bindF]
  refine compF_val (ts.map tmD) (fun _ => True) (fun d => decide (1000 < (tmOf d).2.2)) (fun d => .int (tmOf d).2.2) (fun Q h => ?_) trivial (by have := hd.1; simp; omega) (fun d hd2 => ?_) ?_
  · simp [seqS, setS, retS, retN, exprS, nilS, ifS, parS, asgS, bindT, bindTs, bindF, callC, varF, retF, consF, nilF, iteV, truF, truD, notF, andF, orF, andV, orV, notV, chF, chT, bodyEnds, startE, optF, idxF, slcF, intF, noF, newL, tyD, isiT, isiB, lenB, absB, intB, gcdB, tupB, lstB, ltG, leG, gtG, geG, isG, isnG, o2I, isO, getS, addF, subF, mulF, eqG_ii, neG_ii, neG_bb, fdivG, modG, powG, raiseS, wipeE, itsF]; exact h
  · obtain ⟨u, hu2, rfl⟩ := List.mem_map.mp hd2
    refine ⟨_, rfl, fun Q h => ?_, fun _ Q h => ?_⟩
    · rw [tmOf_tm] at h
      simp [seqS, setS, retS, retN, exprS, nilS, ifS, parS, asgS, bindT, bindTs, bindF, callC, varF, retF, consF, nilF, iteV, truF, truD, notF, andF, orF, andV, orV, notV, chF, chT, bodyEnds, startE, optF, idxF, slcF, intF, noF, newL, tyD, isiT, isiB, lenB, absB, intB, gcdB, tupB, lstB, ltG, leG, gtG, geG, isG, isnG, o2I, isO, getS, addF, subF, mulF, eqG_ii, neG_ii, neG_bb, fdivG, modG, powG, raiseS, wipeE]
      exact h
    · rw [tmOf_tm] at h
      simp [seqS, setS, retS, retN, exprS, nilS, ifS, parS, asgS, bindT, bindTs, bindF, callC, varF, retF, consF, nilF, iteV, truF, truD, notF, andF, orF, andV, orV, notV, chF, chT, bodyEnds, startE, optF, idxF, slcF, intF, noF, newL, tyD, isiT, isiB, lenB, absB, intB, gcdB, tupB, lstB, ltG, leG, gtG, geG, isG, isnG, o2I, isO, getS, addF, subF, mulF, eqG_ii, neG_ii, neG_bb, fdivG, modG, powG, raiseS, wipeE]
      exact h
  · have hdt : ∀ l : List D, datDs (l.map fun d => D.int (tmOf d).2.2) = true ∧ depDs (l.map fun d => D.int (tmOf d).2.2) = 0 := by
      intro l
      induction l with
      | nil => exact ⟨rfl, rfl⟩
      | cons a l ih => simp only [List.map_cons, datDs, depDs, datD, depD, ih.1, ih.2, Bool.true_and]; exact ⟨trivial, rfl⟩
    simp only [lstE, bindF, nilF, retF]
    refine ⟨by simp, ?_⟩
    simp only [newL, Bool.false_eq_true, if_false]
    refine eqG_of (by simp only [datD]; exact (hdt _).1) rfl (by simp only [depD, (hdt _).2]; omega) (by simp [depD, depDs]) ?_
    exact hn
theorem small_eq {ts : List Tm} (hd : DrawnOk ts) : LawX.smallB ts = ts.all fun t => decide (t.2.2.natAbs ≤ 1000) := by
  have hv : ∀ v ∈ vals6, decide (1000 < v) = !decide (v.natAbs ≤ 1000) := by decide
  have e : ∀ ys : List D, eqD (.lst ys) (.lst []) = ys.isEmpty := fun ys => by cases ys <;> rfl
  unfold LawX.smallB
  rw [e]
  have h2 : ∀ t ∈ ts, t.2.2 ∈ vals6 := fun t ht => (hd.2.1 t ht).2
  clear hd
  induction ts with
  | nil => rfl
  | cons t ts ih =>
    have ih := ih fun u hu => h2 u (by simp [hu])
    have ht := hv _ (h2 t (by simp))
    simp only [List.map_cons, List.filter_cons, tmOf_tm, ht, List.all_cons]
    cases q : decide (t.2.2.natAbs ≤ 1000) with
    | true => simp; simpa using ih
    | false => simp
theorem va_last {ts : List Tm} (hd : DrawnOk ts) (hn : E.nx (vaE s t (some (.tup (ts.map tmD))) x y (some (.int (degT ts))) ot (some (.bl (LawX.smallB ts))) ci fl od mo wd) S) :
    (ifS (cmpT neG (callE cCurve (consF (varF 3) nilF)) (andV (chF leG leG (int! 1) (varF 6) (int! 3)) (varF 8))) (retS (bl! false)) nilS) E (vaE s t (some (.tup (ts.map tmD))) x y (some (.int (degT ts))) ot (some (.bl (LawX.smallB ts))) ci fl od mo wd) S := by
  obtain ⟨t1, t2, t3⟩ := tms_ok hd.1 hd.bd
  have e : curveB (.tup (ts.map tmD)) = ((decide (1 ≤ degT ts) && decide (degT ts ≤ 3)) && LawX.smallB ts) := by
    unfold curveB
    rw [hd.surf, tsOf_ts, small_eq hd, Bool.true_and]
  simp [seqS, setS, retS, retN, exprS, nilS, ifS, parS, asgS, bindT, bindTs, bindF, callC, varF, retF, consF, nilF, iteV, truF, truD, notF, andF, orF, andV, orV, notV, chF, chT, bodyEnds, startE, optF, idxF, slcF, intF, noF, newL, tyD, isiT, isiB, lenB, absB, intB, gcdB, tupB, lstB, ltG, leG, gtG, geG, isG, isnG, o2I, isO, getS, addF, subF, mulF, eqG_ii, neG_ii, neG_bb, fdivG, modG, powG, raiseS, wipeE]
  refine ⟨_, 15, rfl, t1, by omega, ?_⟩
  rw [e]
  by_cases h1 : 1 ≤ degT ts
  · by_cases h3 : degT ts ≤ 3
    · simp [h1, h3, seqS, setS, retS, retN, exprS, nilS, ifS, parS, asgS, bindT, bindTs, bindF, callC, varF, retF, consF, nilF, iteV, truF, truD, notF, andF, orF, andV, orV, notV, chF, chT, bodyEnds, startE, optF, idxF, slcF, intF, noF, newL, tyD, isiT, isiB, lenB, absB, intB, gcdB, tupB, lstB, ltG, leG, gtG, geG, isG, isnG, o2I, isO, getS, addF, subF, mulF, eqG_ii, neG_ii, neG_bb, fdivG, modG, powG, raiseS, wipeE]
      exact hn
    · simp [h1, h3, seqS, setS, retS, retN, exprS, nilS, ifS, parS, asgS, bindT, bindTs, bindF, callC, varF, retF, consF, nilF, iteV, truF, truD, notF, andF, orF, andV, orV, notV, chF, chT, bodyEnds, startE, optF, idxF, slcF, intF, noF, newL, tyD, isiT, isiB, lenB, absB, intB, gcdB, tupB, lstB, ltG, leG, gtG, geG, isG, isnG, o2I, isO, getS, addF, subF, mulF, eqG_ii, neG_ii, neG_bb, fdivG, modG, powG, raiseS, wipeE]
      exact hn
  · simp [h1, seqS, setS, retS, retN, exprS, nilS, ifS, parS, asgS, bindT, bindTs, bindF, callC, varF, retF, consF, nilF, iteV, truF, truD, notF, andF, orF, andV, orV, notV, chF, chT, bodyEnds, startE, optF, idxF, slcF, intF, noF, newL, tyD, isiT, isiB, lenB, absB, intB, gcdB, tupB, lstB, ltG, leG, gtG, geG, isG, isnG, o2I, isO, getS, addF, subF, mulF, eqG_ii, neG_ii, neG_bb, fdivG, modG, powG, raiseS, wipeE]
    exact hn
theorem va6 (hc : Cup 0 S) (hn : ∀ S' t sf x y dg ot sm, E.nx (vaE s t sf x y dg ot sm ci fl od mo wd) S') :
    fslaw_6 cDrawn cLFrac (cAlike 3) cTot cValAt cVal cLineOn cLLn cTurned cCurve E (vaE s t sf x y dg ot sm ci fl od mo wd) S := by
  unfold fslaw_6 forS
  simp only [bindF, consF, nilF, retF, rng1]
  refine ⟨by decide, ?_⟩
  refine forL_inv (fun _ τ S' => Cup 0 S' ∧ ∃ t sf x y dg ot sm, τ = vaE s t sf x y dg ot sm ci fl od mo wd) _ 0 ⟨hc, _, _, _, _, _, _, _, rfl⟩ ?_ ?_
  · rintro j d - τ S' K ⟨c, t, sf, x, y, dg, ot, sm, rfl⟩ hK
    refine ⟨trivial, vaE s (some d) sf x y dg ot sm ci fl od mo wd, rfl, ?_⟩
    refine va0 (E := _) c fun ts p q S1 hd hp hq fp fq c1 => ?_
    refine va1 (E := _) hd.1 ?_
    refine va_deg (E := _) hd ?_
    refine va2 (E := _) hd hp hq fp fq ?_
    refine va3 (E := _) c1 hd hp fp fun S2 c2 => ?_
    refine va_turn (E := _) hd fun us hu => ?_
    refine va4 (E := _) hd hu ?_
    refine va_back (E := _) hd hu ?_
    refine va5 (E := _) hd ?_
    refine va_last (E := _) hd ?_
    exact hK _ _ ⟨c2, _, _, _, _, _, _, _, rfl⟩
  · rintro τ S' ⟨c, t, sf, x, y, dg, ot, sm, rfl⟩
    exact ⟨trivial, hn _ _ _ _ _ _ _ _⟩
end
end LawX

set_option Elab.async false
set_option linter.all false
set_option maxRecDepth 100000
set_option maxHeartbeats 0
set_option exponentiation.threshold 5000
namespace LawX
open PySem PySem.Spec PyProof.Rows L2 Dx
def t2 (i j c : Int) : D := .tup [.tup [.int i, .int j], .int c]
def circleT : List Tm := [(0, 0, -2), (0, 2, 1), (2, 0, 1)]
def flatT : List Tm := [(0, 1, -1), (1, 0, 1)]
def circleD : D := .tup [t2 0 0 (-2), t2 0 2 1, t2 2 0 1]
def flatD2 : D := .tup [t2 0 1 (-1), t2 1 0 1]
theorem circle_eq : circleD = .tup (circleT.map tmD) := by kernel_rfl
theorem flat_eq2 : flatD2 = .tup (flatT.map tmD) := by kernel_rfl
theorem w_surf : w_law_error "InvalidSurface" = some "surface" := by kernel_rfl
theorem w_frac : w_law_error "InvalidFraction" = some "fraction" := by kernel_rfl
theorem circle_ok : okD 15 circleD = true ∧ surfB circleD = true ∧ curveB circleD = true ∧ degT (tsOf circleD) = 2 := by decide +kernel
theorem circle_tm : circleT.length ≤ 5 ∧ ∀ t ∈ circleT, TmOk t := by unfold TmOk; decide
theorem flat_ok2 : okD 15 flatD2 = true ∧ surfB flatD2 = true := by decide +kernel
def h12 : Rat := qf 1 2
def m11 : Rat := qf (-1) 1
theorem h12_eq : D.tup [.int 1, .int 2] = ratD h12 := by kernel_rfl
theorem m11_eq : D.tup [.int (-1), .int 1] = ratD m11 := by kernel_rfl
theorem h12_z : Qz 4 h12 := Fz.q (a := 1) (b := 2) ⟨by decide, by decide, by decide⟩
theorem m11_z : Qz 4 m11 := Fz.q (a := -1) (b := 1) ⟨by decide, by decide, by decide⟩
theorem line12 : lineT h12 circleT = [.int (-7), .int 0, .int 4] := by kernel_rfl
theorem val12 : ratD (valT h12 m11 circleT) = .tup [.int (-3), .int 4] := by kernel_rfl
theorem fr12 : isFrac (.tup [.int 1, .int 2]) = true ∧ okD 15 (.tup [.int 1, .int 2]) = true := by decide +kernel
theorem fr11 : isFrac (.tup [.int (-1), .int 1]) = true ∧ okD 15 (.tup [.int (-1), .int 1]) = true := by decide +kernel
theorem fr1 : isFrac (.tup [.int 1, .int 1]) = true ∧ okD 15 (.tup [.int 1, .int 1]) = true := by decide +kernel
theorem fr0 : isFrac (.tup [.int 0, .int 1]) = true ∧ okD 15 (.tup [.int 0, .int 1]) = true := by decide +kernel
def z0 : Rat := qf 0 1
theorem z0_eq : D.tup [.int 0, .int 1] = ratD z0 := by kernel_rfl
theorem z0_z : Qz 4 z0 := Fz.q (a := 0) (b := 1) ⟨by decide, by decide, by decide⟩
def oneX : List Tm := [(1, 0, 2)]
theorem oneX_eq : D.tup [t2 1 0 2] = .tup (oneX.map tmD) := by kernel_rfl
theorem oneX_ok : okD 15 (.tup [t2 1 0 2]) = true ∧ surfB (.tup [t2 1 0 2]) = true := by decide +kernel
theorem oneX_tm : oneX.length ≤ 5 ∧ ∀ t ∈ oneX, TmOk t := by unfold TmOk; decide
theorem line0 : lineT z0 oneX = [] := by kernel_rfl
theorem flat_turn {us : List Tm} (h : Turned flatT us) : us = [(0, 1, 1), (1, 0, -1)] := by
  refine Turned.one h ⟨?_, ?_⟩
  · exact List.Perm.swap _ _ _
  · simp [tmD, ltD, ltDs, eqD, eqDs]
section
variable {E : DEnds} {S : Store} {s t sf x y dg ot sm ci fl od mo wd : Option D}
theorem vb7 (hn : E.nx (vaE s t sf x y dg ot sm (some circleD) (some flatD2) od mo wd) S) : fslaw_7 E (vaE s t sf x y dg ot sm ci fl od mo wd) S := by
  have hs := sizeLine_eq
  have z1 : ∀ k : Nat, k ≤ 100 → k ≤ sizeLine := fun k h => by omega
  simp [fslaw_7, seqS, setS, retS, retN, exprS, nilS, ifS, parS, asgS, bindT, bindTs, bindF, callC, varF, retF, consF, nilF, iteV, truF, truD, notF, andF, orF, andV, orV, notV, chF, chT, bodyEnds, startE, optF, idxF, slcF, intF, noF, newL, tyD, isiT, isiB, lenB, absB, intB, gcdB, tupB, lstB, ltG, leG, gtG, geG, isG, isnG, o2I, isO, getS, addF, subF, mulF, eqG_ii, neG_ii, neG_bb, fdivG, modG, powG, raiseS, wipeE, z1]
  exact hn
theorem vb8 (hn : ∀ S', E.nx (vaE s t sf x y dg ot sm (some circleD) fl od mo wd) S') : fslaw_8 cCurve cTot cLineOn E (vaE s t sf x y dg ot sm (some circleD) fl od mo wd) S := by
  have hs := sizeLine_eq
  have z1 : ∀ k : Nat, k ≤ 100 → k ≤ sizeLine := fun k h => by omega
  simp [fslaw_8, seqS, setS, retS, retN, exprS, nilS, ifS, parS, asgS, bindT, bindTs, bindF, callC, varF, retF, consF, nilF, iteV, truF, truD, notF, andF, orF, andV, orV, notV, chF, chT, bodyEnds, startE, optF, idxF, slcF, intF, noF, newL, tyD, isiT, isiB, lenB, absB, intB, gcdB, tupB, lstB, ltG, leG, gtG, geG, isG, isnG, o2I, isO, getS, addF, subF, mulF, eqG_ii, neG_ii, neG_bb, fdivG, modG, powG, raiseS, wipeE, z1]
  refine ⟨circleD, 15, rfl, circle_ok.1, by omega, ?_⟩
  rw [circle_ok.2.2.1]
  simp [seqS, setS, retS, retN, exprS, nilS, ifS, parS, asgS, bindT, bindTs, bindF, callC, varF, retF, consF, nilF, iteV, truF, truD, notF, andF, orF, andV, orV, notV, chF, chT, bodyEnds, startE, optF, idxF, slcF, intF, noF, newL, tyD, isiT, isiB, lenB, absB, intB, gcdB, tupB, lstB, ltG, leG, gtG, geG, isG, isnG, o2I, isO, getS, addF, subF, mulF, eqG_ii, neG_ii, neG_bb, fdivG, modG, powG, raiseS, wipeE, z1]
  refine ⟨circleD, 15, rfl, circle_ok.1, by omega, fun _ => ?_, fun z => by rw [circle_ok.2.1] at z; cases z⟩
  rw [circle_ok.2.2.2]
  simp [seqS, setS, retS, retN, exprS, nilS, ifS, parS, asgS, bindT, bindTs, bindF, callC, varF, retF, consF, nilF, iteV, truF, truD, notF, andF, orF, andV, orV, notV, chF, chT, bodyEnds, startE, optF, idxF, slcF, intF, noF, newL, tyD, isiT, isiB, lenB, absB, intB, gcdB, tupB, lstB, ltG, leG, gtG, geG, isG, isnG, o2I, isO, getS, addF, subF, mulF, eqG_ii, neG_ii, neG_bb, fdivG, modG, powG, raiseS, wipeE, z1]
  refine ⟨circleD, _, 15, rfl, circle_ok.1, by omega, fr12.2, fun z => (by rw [circle_ok.2.1] at z; cases z), fun _ z => (by rw [fr12.1] at z; cases z), fun _ _ => ⟨circleT, h12, circle_eq, h12_eq, circle_tm.1, circle_tm.2, h12_z, fun S' _ => ?_⟩⟩
  rw [line12]
  refine neG_of rfl rfl (by simp [depD, depDs]) (by simp [depD, depDs]) ?_
  simp [eqD, eqDs, seqS, setS, retS, retN, exprS, nilS, ifS, parS, asgS, bindT, bindTs, bindF, callC, varF, retF, consF, nilF, iteV, truF, truD, notF, andF, orF, andV, orV, notV, chF, chT, bodyEnds, startE, optF, idxF, slcF, intF, noF, newL, tyD, isiT, isiB, lenB, absB, intB, gcdB, tupB, lstB, ltG, leG, gtG, geG, isG, isnG, o2I, isO, getS, addF, subF, mulF, eqG_ii, neG_ii, neG_bb, fdivG, modG, powG, raiseS, wipeE]
  exact hn S'
theorem vb9 (hn : E.nx (vaE s t sf x y dg ot sm (some circleD) fl od mo wd) S) : fslaw_9 cValAt E (vaE s t sf x y dg ot sm (some circleD) fl od mo wd) S := by
  have hs := sizeLine_eq
  have z1 : ∀ k : Nat, k ≤ 100 → k ≤ sizeLine := fun k h => by omega
  simp [fslaw_9, seqS, setS, retS, retN, exprS, nilS, ifS, parS, asgS, bindT, bindTs, bindF, callC, varF, retF, consF, nilF, iteV, truF, truD, notF, andF, orF, andV, orV, notV, chF, chT, bodyEnds, startE, optF, idxF, slcF, intF, noF, newL, tyD, isiT, isiB, lenB, absB, intB, gcdB, tupB, lstB, ltG, leG, gtG, geG, isG, isnG, o2I, isO, getS, addF, subF, mulF, eqG_ii, neG_ii, neG_bb, fdivG, modG, powG, raiseS, wipeE, z1]
  refine ⟨circleD, _, _, 15, rfl, circle_ok.1, by omega, fr12.2, fr11.2, fun z => (by rw [circle_ok.2.1] at z; cases z), fun _ z => (by rw [fr12.1] at z; cases z), fun _ _ z => (by rw [fr11.1] at z; cases z), fun _ _ _ => ⟨circleT, h12, m11, circle_eq, h12_eq, m11_eq, circle_tm.1, circle_tm.2, h12_z, m11_z, ?_⟩⟩
  rw [val12]
  refine neG_of rfl rfl (by simp [depD, depDs]) (by simp [depD, depDs]) ?_
  simp [eqD, eqDs, seqS, setS, retS, retN, exprS, nilS, ifS, parS, asgS, bindT, bindTs, bindF, callC, varF, retF, consF, nilF, iteV, truF, truD, notF, andF, orF, andV, orV, notV, chF, chT, bodyEnds, startE, optF, idxF, slcF, intF, noF, newL, tyD, isiT, isiB, lenB, absB, intB, gcdB, tupB, lstB, ltG, leG, gtG, geG, isG, isnG, o2I, isO, getS, addF, subF, mulF, eqG_ii, neG_ii, neG_bb, fdivG, modG, powG, raiseS, wipeE]
  exact hn
theorem vb10 (hn : E.nx (vaE s t sf x y dg ot sm ci (some flatD2) od mo wd) S) : fslaw_10 cTurned cTot E (vaE s t sf x y dg ot sm ci (some flatD2) od mo wd) S := by
  have hs := sizeLine_eq
  have z1 : ∀ k : Nat, k ≤ 100 → k ≤ sizeLine := fun k h => by omega
  simp [fslaw_10, seqS, setS, retS, retN, exprS, nilS, ifS, parS, asgS, bindT, bindTs, bindF, callC, varF, retF, consF, nilF, iteV, truF, truD, notF, andF, orF, andV, orV, notV, chF, chT, bodyEnds, startE, optF, idxF, slcF, intF, noF, newL, tyD, isiT, isiB, lenB, absB, intB, gcdB, tupB, lstB, ltG, leG, gtG, geG, isG, isnG, o2I, isO, getS, addF, subF, mulF, eqG_ii, neG_ii, neG_bb, fdivG, modG, powG, raiseS, wipeE, z1]
  refine ⟨flatD2, 15, rfl, flat_ok2.1, by omega, fun _ us hu => ?_, fun z => by rw [flat_ok2.2] at z; cases z⟩
  rw [flat_eq2, tsOf_ts] at hu
  rw [flat_turn hu]
  refine neG_of rfl rfl (by simp [depD, depDs, tmD]) (by simp [depD, depDs]) ?_
  simp [eqD, eqDs, tmD, seqS, setS, retS, retN, exprS, nilS, ifS, parS, asgS, bindT, bindTs, bindF, callC, varF, retF, consF, nilF, iteV, truF, truD, notF, andF, orF, andV, orV, notV, chF, chT, bodyEnds, startE, optF, idxF, slcF, intF, noF, newL, tyD, isiT, isiB, lenB, absB, intB, gcdB, tupB, lstB, ltG, leG, gtG, geG, isG, isnG, o2I, isO, getS, addF, subF, mulF, eqG_ii, neG_ii, neG_bb, fdivG, modG, powG, raiseS, wipeE, z1]
  refine ⟨.tup [], 15, rfl, by decide +kernel, by omega, fun _ => ?_, fun z => by cases z⟩
  have e : degT (tsOf (.tup [])) = -1 := by kernel_rfl
  rw [e]
  simp [seqS, setS, retS, retN, exprS, nilS, ifS, parS, asgS, bindT, bindTs, bindF, callC, varF, retF, consF, nilF, iteV, truF, truD, notF, andF, orF, andV, orV, notV, chF, chT, bodyEnds, startE, optF, idxF, slcF, intF, noF, newL, tyD, isiT, isiB, lenB, absB, intB, gcdB, tupB, lstB, ltG, leG, gtG, geG, isG, isnG, o2I, isO, getS, addF, subF, mulF, eqG_ii, neG_ii, neG_bb, fdivG, modG, powG, raiseS, wipeE]
  exact hn
theorem vb11 (hn : ∀ S', E.nx (vaE s t sf x y dg ot sm ci fl od mo wd) S') : fslaw_11 cLineOn E (vaE s t sf x y dg ot sm ci fl od mo wd) S := by
  have hs := sizeLine_eq
  have z1 : ∀ k : Nat, k ≤ 100 → k ≤ sizeLine := fun k h => by omega
  simp [fslaw_11, seqS, setS, retS, retN, exprS, nilS, ifS, parS, asgS, bindT, bindTs, bindF, callC, varF, retF, consF, nilF, iteV, truF, truD, notF, andF, orF, andV, orV, notV, chF, chT, bodyEnds, startE, optF, idxF, slcF, intF, noF, newL, tyD, isiT, isiB, lenB, absB, intB, gcdB, tupB, lstB, ltG, leG, gtG, geG, isG, isnG, o2I, isO, getS, addF, subF, mulF, eqG_ii, neG_ii, neG_bb, fdivG, modG, powG, raiseS, wipeE, z1]
  refine ⟨_, _, 15, rfl, oneX_ok.1, by omega, fr0.2, fun z => (by have := oneX_ok.2; rw [show D.tup [t2 1 0 2] = .tup [.tup [.tup [.int 1, .int 0], .int 2]] from rfl] at this; rw [this] at z; cases z), fun _ z => (by rw [fr0.1] at z; cases z), fun _ _ => ⟨oneX, z0, oneX_eq, z0_eq, oneX_tm.1, oneX_tm.2, z0_z, fun S' _ => ?_⟩⟩
  rw [line0]
  refine neG_of rfl rfl (by simp [depD, depDs]) (by simp [depD, depDs]) ?_
  simp [eqD, eqDs, seqS, setS, retS, retN, exprS, nilS, ifS, parS, asgS, bindT, bindTs, bindF, callC, varF, retF, consF, nilF, iteV, truF, truD, notF, andF, orF, andV, orV, notV, chF, chT, bodyEnds, startE, optF, idxF, slcF, intF, noF, newL, tyD, isiT, isiB, lenB, absB, intB, gcdB, tupB, lstB, ltG, leG, gtG, geG, isG, isnG, o2I, isO, getS, addF, subF, mulF, eqG_ii, neG_ii, neG_bb, fdivG, modG, powG, raiseS, wipeE]
  exact hn S'
def odd1 : List D := [.non, .tup [], .tup [t2 0 0 1], .tup [t2 0 4 1], .tup [t2 1 0 1001]]
def odd2 : List D := [.tup [.tup [.tup [.int 1, .int 0], .bl true]], .lst [t2 1 0 1], .tup [t2 1 0 1, t2 0 1 1]]
def more1 : List D := [.tup [t2 1 0 (-1001)], .tup [t2 1 0 0], .tup [t2 1 0 1, t2 1 0 2]]
theorem vb12 (hn : E.nx (vaE s t sf x y dg ot sm ci fl (some (.tup odd1)) mo wd) S) : fslaw_12 E (vaE s t sf x y dg ot sm ci fl od mo wd) S := by
  have hs := sizeLine_eq
  have z1 : ∀ k : Nat, k ≤ 100 → k ≤ sizeLine := fun k h => by omega
  simp [fslaw_12, seqS, setS, retS, retN, exprS, nilS, ifS, parS, asgS, bindT, bindTs, bindF, callC, varF, retF, consF, nilF, iteV, truF, truD, notF, andF, orF, andV, orV, notV, chF, chT, bodyEnds, startE, optF, idxF, slcF, intF, noF, newL, tyD, isiT, isiB, lenB, absB, intB, gcdB, tupB, lstB, ltG, leG, gtG, geG, isG, isnG, o2I, isO, getS, addF, subF, mulF, eqG_ii, neG_ii, neG_bb, fdivG, modG, powG, raiseS, wipeE, z1]
  exact hn
theorem vb13 (hn : E.nx (vaE s t sf x y dg ot sm ci fl (some (.tup (odd1 ++ odd2))) mo wd) S) : fslaw_13 E (vaE s t sf x y dg ot sm ci fl (some (.tup odd1)) mo wd) S := by
  have hs := sizeLine_eq
  have z1 : ∀ k : Nat, k ≤ 100 → k ≤ sizeLine := fun k h => by omega
  have hl : odd1.length + 3 ≤ sizeLine := z1 _ (by decide)
  simp [fslaw_13, seqS, setS, retS, retN, exprS, nilS, ifS, parS, asgS, bindT, bindTs, bindF, callC, varF, retF, consF, nilF, iteV, truF, truD, notF, andF, orF, andV, orV, notV, chF, chT, bodyEnds, startE, optF, idxF, slcF, intF, noF, newL, tyD, isiT, isiB, lenB, absB, intB, gcdB, tupB, lstB, ltG, leG, gtG, geG, isG, isnG, o2I, isO, getS, addF, subF, mulF, eqG_ii, neG_ii, neG_bb, fdivG, modG, powG, raiseS, wipeE, z1, hl]
  exact hn
theorem vb14 (hn : E.nx (vaE s t sf x y dg ot sm ci fl od (some (.tup more1)) wd) S) : fslaw_14 E (vaE s t sf x y dg ot sm ci fl od mo wd) S := by
  have hs := sizeLine_eq
  have z1 : ∀ k : Nat, k ≤ 100 → k ≤ sizeLine := fun k h => by omega
  simp [fslaw_14, seqS, setS, retS, retN, exprS, nilS, ifS, parS, asgS, bindT, bindTs, bindF, callC, varF, retF, consF, nilF, iteV, truF, truD, notF, andF, orF, andV, orV, notV, chF, chT, bodyEnds, startE, optF, idxF, slcF, intF, noF, newL, tyD, isiT, isiB, lenB, absB, intB, gcdB, tupB, lstB, ltG, leG, gtG, geG, isG, isnG, o2I, isO, getS, addF, subF, mulF, eqG_ii, neG_ii, neG_bb, fdivG, modG, powG, raiseS, wipeE, z1]
  exact hn
def oddA : List D := odd1 ++ odd2
theorem odd_ok : ∀ d ∈ oddA ++ more1, okD 15 d = true ∧ curveB d = false := by decide +kernel
theorem vb15 (hn : E.nx (vaE s t sf x y dg ot sm ci fl (some (.tup oddA)) (some (.tup more1)) wd) S) : fslaw_15 cCurve E (vaE s t sf x y dg ot sm ci fl (some (.tup oddA)) (some (.tup more1)) wd) S := by
  have hs := sizeLine_eq
  have z1 : ∀ k : Nat, k ≤ 100 → k ≤ sizeLine := fun k h => by omega
  have hl : oddA.length + more1.length ≤ sizeLine := z1 _ (by decide)
  simp only [fslaw_15, ifS, cmpT, bindF]
  refine compF_val (oddA ++ more1) (fun _ => True) (fun _ => false) id (fun Q h => ?_) trivial (z1 _ (by decide)) (fun d hd => ?_) ?_
  · simp only [itE, binE, bindF, varF, List.getElem?_cons_succ, List.getElem?_cons_zero, addF, getS, itsF]
    exact ⟨hl, h⟩
  · obtain ⟨h1, h2⟩ := odd_ok d hd
    refine ⟨_, rfl, fun Q h => ?_, fun z => by cases z⟩
    simp [seqS, setS, retS, retN, exprS, nilS, ifS, parS, asgS, bindT, bindTs, bindF, callC, varF, retF, consF, nilF, iteV, truF, truD, notF, andF, orF, andV, orV, notV, chF, chT, bodyEnds, startE, optF, idxF, slcF, intF, noF, newL, tyD, isiT, isiB, lenB, absB, intB, gcdB, tupB, lstB, ltG, leG, gtG, geG, isG, isnG, o2I, isO, getS, addF, subF, mulF, eqG_ii, neG_ii, neG_bb, fdivG, modG, powG, raiseS, wipeE]
    refine ⟨d, 15, rfl, h1, by omega, ?_⟩
    simp [seqS, setS, retS, retN, exprS, nilS, ifS, parS, asgS, bindT, bindTs, bindF, callC, varF, retF, consF, nilF, iteV, truF, truD, notF, andF, orF, andV, orV, notV, chF, chT, bodyEnds, startE, optF, idxF, slcF, intF, noF, newL, tyD, isiT, isiB, lenB, absB, intB, gcdB, tupB, lstB, ltG, leG, gtG, geG, isG, isnG, o2I, isO, getS, addF, subF, mulF, eqG_ii, neG_ii, neG_bb, fdivG, modG, powG, raiseS, wipeE, h2]
    exact h
  · have e : ((oddA ++ more1).filter fun _ => false).map (id : D → D) = [] := by simp
    rw [e]
    simp [seqS, setS, retS, retN, exprS, nilS, ifS, parS, asgS, bindT, bindTs, bindF, callC, varF, retF, consF, nilF, iteV, truF, truD, notF, andF, orF, andV, orV, notV, chF, chT, bodyEnds, startE, optF, idxF, slcF, intF, noF, newL, tyD, isiT, isiB, lenB, absB, intB, gcdB, tupB, lstB, ltG, leG, gtG, geG, isG, isnG, o2I, isO, getS, addF, subF, mulF, eqG_ii, neG_ii, neG_bb, fdivG, modG, powG, raiseS, wipeE]
    refine neG_of rfl rfl (by simp [depD, depDs]) (by simp [depD, depDs]) ?_
    simp [eqD, eqDs, seqS, setS, retS, retN, exprS, nilS, ifS, parS, asgS, bindT, bindTs, bindF, callC, varF, retF, consF, nilF, iteV, truF, truD, notF, andF, orF, andV, orV, notV, chF, chT, bodyEnds, startE, optF, idxF, slcF, intF, noF, newL, tyD, isiT, isiB, lenB, absB, intB, gcdB, tupB, lstB, ltG, leG, gtG, geG, isG, isnG, o2I, isO, getS, addF, subF, mulF, eqG_ii, neG_ii, neG_bb, fdivG, modG, powG, raiseS, wipeE]
    exact hn
theorem vb16 (hn : E.nx (vaE s t sf x y dg ot sm ci fl od mo wd) S) : fslaw_16 cCurve E (vaE s t sf x y dg ot sm ci fl od mo wd) S := by
  have hs := sizeLine_eq
  have z1 : ∀ k : Nat, k ≤ 100 → k ≤ sizeLine := fun k h => by omega
  have e : okD 15 (.tup [t2 0 1 (-1000), t2 3 0 1000]) = true ∧ curveB (.tup [t2 0 1 (-1000), t2 3 0 1000]) = true := by decide +kernel
  simp [fslaw_16, seqS, setS, retS, retN, exprS, nilS, ifS, parS, asgS, bindT, bindTs, bindF, callC, varF, retF, consF, nilF, iteV, truF, truD, notF, andF, orF, andV, orV, notV, chF, chT, bodyEnds, startE, optF, idxF, slcF, intF, noF, newL, tyD, isiT, isiB, lenB, absB, intB, gcdB, tupB, lstB, ltG, leG, gtG, geG, isG, isnG, o2I, isO, getS, addF, subF, mulF, eqG_ii, neG_ii, neG_bb, fdivG, modG, powG, raiseS, wipeE, z1]
  refine ⟨.tup [t2 0 1 (-1000), t2 3 0 1000], 15, rfl, e.1, by omega, ?_⟩
  rw [e.2]
  simp [seqS, setS, retS, retN, exprS, nilS, ifS, parS, asgS, bindT, bindTs, bindF, callC, varF, retF, consF, nilF, iteV, truF, truD, notF, andF, orF, andV, orV, notV, chF, chT, bodyEnds, startE, optF, idxF, slcF, intF, noF, newL, tyD, isiT, isiB, lenB, absB, intB, gcdB, tupB, lstB, ltG, leG, gtG, geG, isG, isnG, o2I, isO, getS, addF, subF, mulF, eqG_ii, neG_ii, neG_bb, fdivG, modG, powG, raiseS, wipeE]
  exact hn
end
end LawX

set_option Elab.async false
set_option linter.all false
set_option maxRecDepth 100000
set_option maxHeartbeats 0
set_option exponentiation.threshold 5000
namespace LawX
open PySem PySem.Spec PyProof.Rows L2 Dx
def sW : D := .str "surface"
def fW : D := .str "fraction"
def rep (n : Nat) (w : D) : List D := List.replicate n w
section
variable {E : DEnds} {S : Store} {s t sf x y dg ot sm ci fl od mo wd : Option D}
def odd3 : List D := [.non, .tup [.tup [.tup [.int 1, .int 0], .bl true]], .lst [t2 1 0 1], .tup [t2 1 0 1, t2 0 1 1]]
theorem odd3_eq : Dx.cutD oddA none (some 1) ++ Dx.cutD oddA (some 5) none = odd3 := by kernel_rfl
theorem odd3_ok : ∀ d ∈ odd3, okD 15 d = true ∧ surfB d = false := by decide +kernel
theorem map_all {l : List D} {w : D} : ((l.filter fun _ => true).map fun _ => w) = rep l.length w := by
  have e : l.filter (fun _ => true) = l := by simp
  rw [e, List.map_const']
  rfl
theorem vc17 (hn : E.nx (vaE s t sf x y dg ot sm ci fl (some (.tup oddA)) mo (some (.lst (rep 4 sW)))) S) : fslaw_17 cValAt E (vaE s t sf x y dg ot sm ci fl (some (.tup oddA)) mo wd) S := by
  have hs := sizeLine_eq
  have z1 : ∀ k : Nat, k ≤ 100 → k ≤ sizeLine := fun k h => by omega
  have hl : (Dx.cutD oddA none (some 1)).length + (Dx.cutD oddA (some 5) none).length ≤ sizeLine := z1 _ (by decide +kernel)
  simp only [fslaw_17, setS]
  refine compF_val odd3 (fun _ => True) (fun _ => true) (fun _ => sW) (fun Q h => ?_) trivial (z1 _ (by decide)) (fun d hd => ⟨_, rfl, fun Q h => h, fun _ Q h => ?_⟩) ?_
  · simp only [itE, binE, slcE, bindF, varF, someI, intF, noF, retF, List.getElem?_cons_succ, List.getElem?_cons_zero, slcF, addF, getS, itsF]
    refine ⟨hl, ?_⟩
    rw [odd3_eq]
    exact h
  · obtain ⟨h1, h2⟩ := odd3_ok d hd
    simp [seqS, setS, retS, retN, exprS, nilS, ifS, parS, asgS, bindT, bindTs, bindF, callC, varF, retF, consF, nilF, iteV, truF, truD, notF, andF, orF, andV, orV, notV, chF, chT, bodyEnds, startE, optF, idxF, slcF, intF, noF, newL, tyD, isiT, isiB, lenB, absB, intB, gcdB, tupB, lstB, ltG, leG, gtG, geG, isG, isnG, o2I, isO, getS, addF, subF, mulF, eqG_ii, neG_ii, neG_bb, fdivG, modG, powG, raiseS, wipeE, lamF]
    refine ⟨d, .non, .non, 15, rfl, h1, by omega, rfl, rfl, fun _ => ?_, fun z => (by rw [h2] at z; cases z), fun z => (by rw [h2] at z; cases z), fun z => (by rw [h2] at z; cases z)⟩
    simp [w_surf]
    exact h
  · rw [map_all]
    exact hn
theorem circ_okD : okD 15 circleD = true := circle_ok.1
def fr4 : List D := [.non, .tup [.int 1, .int 0], .tup [.int 2, .int 4], .tup [.int 1000000000001, .int 1]]
theorem fr4_ok : ∀ d ∈ fr4, okD 15 d = true ∧ isFrac d = false := by decide +kernel
theorem vc18 {R : List D} (hl : R.length + 4 ≤ sizeLine) (hn : E.nx (vaE s t sf x y dg ot sm (some circleD) fl od mo (some (.lst (R ++ rep 4 fW)))) S) : fslaw_18 cLineOn E (vaE s t sf x y dg ot sm (some circleD) fl od mo (some (.lst R))) S := by
  have hs := sizeLine_eq
  have z1 : ∀ k : Nat, k ≤ 100 → k ≤ sizeLine := fun k h => by omega
  simp only [fslaw_18, setS, binE, bindF, varF, List.getElem?_cons_succ, List.getElem?_cons_zero]
  refine compF_val fr4 (fun _ => True) (fun _ => true) (fun _ => fW) (fun Q h => ?_) trivial (z1 _ (by decide)) (fun d hd => ⟨_, rfl, fun Q h => h, fun _ Q h => ?_⟩) ?_
  · simp [seqS, setS, retS, retN, exprS, nilS, ifS, parS, asgS, bindT, bindTs, bindF, callC, varF, retF, consF, nilF, iteV, truF, truD, notF, andF, orF, andV, orV, notV, chF, chT, bodyEnds, startE, optF, idxF, slcF, intF, noF, newL, tyD, isiT, isiB, lenB, absB, intB, gcdB, tupB, lstB, ltG, leG, gtG, geG, isG, isnG, o2I, isO, getS, addF, subF, mulF, eqG_ii, neG_ii, neG_bb, fdivG, modG, powG, raiseS, wipeE, itsF, z1, p12]; exact h
  · obtain ⟨h1, h2⟩ := fr4_ok d hd
    simp [seqS, setS, retS, retN, exprS, nilS, ifS, parS, asgS, bindT, bindTs, bindF, callC, varF, retF, consF, nilF, iteV, truF, truD, notF, andF, orF, andV, orV, notV, chF, chT, bodyEnds, startE, optF, idxF, slcF, intF, noF, newL, tyD, isiT, isiB, lenB, absB, intB, gcdB, tupB, lstB, ltG, leG, gtG, geG, isG, isnG, o2I, isO, getS, addF, subF, mulF, eqG_ii, neG_ii, neG_bb, fdivG, modG, powG, raiseS, wipeE, lamF]
    refine ⟨circleD, d, 15, rfl, circ_okD, by omega, h1, fun z => (by rw [circle_ok.2.1] at z; cases z), fun _ _ => ?_, fun _ z => (by rw [h2] at z; cases z)⟩
    simp [w_frac]
    exact h
  · rw [map_all]
    have e : (rep fr4.length fW).length = 4 := rfl
    simp only [addF, getS]
    exact ⟨by rw [e]; exact hl, hn⟩
def fr5 : List D := [.non, .int 1, .tup [.bl true, .int 1], .tup [.int 1, .int 1000000000001]]
theorem fr5_ok : ∀ d ∈ fr5, okD 15 d = true ∧ isFrac d = false := by decide +kernel
theorem vc19 {R : List D} (hl : R.length + 4 ≤ sizeLine) (hn : E.nx (vaE s t sf x y dg ot sm (some circleD) fl od mo (some (.lst (R ++ rep 4 fW)))) S) : fslaw_19 cValAt E (vaE s t sf x y dg ot sm (some circleD) fl od mo (some (.lst R))) S := by
  have hs := sizeLine_eq
  have z1 : ∀ k : Nat, k ≤ 100 → k ≤ sizeLine := fun k h => by omega
  simp only [fslaw_19, setS, binE, bindF, varF, List.getElem?_cons_succ, List.getElem?_cons_zero]
  refine compF_val fr5 (fun _ => True) (fun _ => true) (fun _ => fW) (fun Q h => ?_) trivial (z1 _ (by decide)) (fun d hd => ⟨_, rfl, fun Q h => h, fun _ Q h => ?_⟩) ?_
  · simp [seqS, setS, retS, retN, exprS, nilS, ifS, parS, asgS, bindT, bindTs, bindF, callC, varF, retF, consF, nilF, iteV, truF, truD, notF, andF, orF, andV, orV, notV, chF, chT, bodyEnds, startE, optF, idxF, slcF, intF, noF, newL, tyD, isiT, isiB, lenB, absB, intB, gcdB, tupB, lstB, ltG, leG, gtG, geG, isG, isnG, o2I, isO, getS, addF, subF, mulF, eqG_ii, neG_ii, neG_bb, fdivG, modG, powG, raiseS, wipeE, itsF, z1, p12]; exact h
  · obtain ⟨h1, h2⟩ := fr5_ok d hd
    simp [seqS, setS, retS, retN, exprS, nilS, ifS, parS, asgS, bindT, bindTs, bindF, callC, varF, retF, consF, nilF, iteV, truF, truD, notF, andF, orF, andV, orV, notV, chF, chT, bodyEnds, startE, optF, idxF, slcF, intF, noF, newL, tyD, isiT, isiB, lenB, absB, intB, gcdB, tupB, lstB, ltG, leG, gtG, geG, isG, isnG, o2I, isO, getS, addF, subF, mulF, eqG_ii, neG_ii, neG_bb, fdivG, modG, powG, raiseS, wipeE, lamF, z1]
    refine ⟨circleD, _, d, 15, rfl, circ_okD, by omega, fr1.2, h1, fun z => (by rw [circle_ok.2.1] at z; cases z), fun _ z => (by rw [fr1.1] at z; cases z), fun _ _ _ => ?_, fun _ _ z => (by rw [h2] at z; cases z)⟩
    simp [w_frac]
    exact h
  · rw [map_all]
    have e : (rep fr5.length fW).length = 4 := rfl
    simp only [addF, getS]
    exact ⟨by rw [e]; exact hl, hn⟩
theorem vc20 {R : List D} (hl : R.length + 2 ≤ sizeLine) (hn : E.nx (vaE s t sf x y dg ot sm ci fl od mo (some (.lst (R ++ rep 2 sW)))) S) : fslaw_20 cTurned E (vaE s t sf x y dg ot sm ci fl od mo (some (.lst R))) S := by
  have hs := sizeLine_eq
  have z1 : ∀ k : Nat, k ≤ 100 → k ≤ sizeLine := fun k h => by omega
  have ok : ∀ d ∈ ([.non, .int 0] : List D), okD 15 d = true ∧ surfB d = false := by decide +kernel
  simp only [fslaw_20, setS, binE, bindF, varF, List.getElem?_cons_succ, List.getElem?_cons_zero]
  refine compF_val [.non, .int 0] (fun _ => True) (fun _ => true) (fun _ => sW) (fun Q h => ?_) trivial (z1 _ (by decide)) (fun d hd => ⟨_, rfl, fun Q h => h, fun _ Q h => ?_⟩) ?_
  · simp [seqS, setS, retS, retN, exprS, nilS, ifS, parS, asgS, bindT, bindTs, bindF, callC, varF, retF, consF, nilF, iteV, truF, truD, notF, andF, orF, andV, orV, notV, chF, chT, bodyEnds, startE, optF, idxF, slcF, intF, noF, newL, tyD, isiT, isiB, lenB, absB, intB, gcdB, tupB, lstB, ltG, leG, gtG, geG, isG, isnG, o2I, isO, getS, addF, subF, mulF, eqG_ii, neG_ii, neG_bb, fdivG, modG, powG, raiseS, wipeE, itsF, z1]; exact h
  · obtain ⟨h1, h2⟩ := ok d hd
    simp [seqS, setS, retS, retN, exprS, nilS, ifS, parS, asgS, bindT, bindTs, bindF, callC, varF, retF, consF, nilF, iteV, truF, truD, notF, andF, orF, andV, orV, notV, chF, chT, bodyEnds, startE, optF, idxF, slcF, intF, noF, newL, tyD, isiT, isiB, lenB, absB, intB, gcdB, tupB, lstB, ltG, leG, gtG, geG, isG, isnG, o2I, isO, getS, addF, subF, mulF, eqG_ii, neG_ii, neG_bb, fdivG, modG, powG, raiseS, wipeE, lamF]
    refine ⟨d, 15, rfl, h1, by omega, fun z => (by rw [h2] at z; cases z), fun _ => ?_⟩
    simp [w_surf]
    exact h
  · rw [map_all]
    have e : (rep ([.non, .int 0] : List D).length sW).length = 2 := rfl
    simp only [addF, getS]
    exact ⟨by rw [e]; exact hl, hn⟩
def fr6 : List D := [.non, .tup [.int 2, .int 4], .lst [.int 1, .int 1]]
theorem fr6_ok : ∀ d ∈ fr6, okD 15 d = true ∧ isFrac d = false := by decide +kernel
theorem vc21 {R : List D} (hl : R.length + 3 ≤ sizeLine) (hn : E.nx (vaE s t sf x y dg ot sm (some circleD) fl od mo (some (.obj S.length))) (S ++ [.lst (R ++ rep 3 fW)])) : fslaw_21 cValAt E (vaE s t sf x y dg ot sm (some circleD) fl od mo (some (.lst R))) S := by
  have hs := sizeLine_eq
  have z1 : ∀ k : Nat, k ≤ 100 → k ≤ sizeLine := fun k h => by omega
  simp only [fslaw_21, setS, binE, bindF, varF, List.getElem?_cons_succ, List.getElem?_cons_zero]
  refine compF_val fr6 (fun _ => True) (fun _ => true) (fun _ => fW) (fun Q h => ?_) trivial (z1 _ (by decide)) (fun d hd => ⟨_, rfl, fun Q h => h, fun _ Q h => ?_⟩) ?_
  · simp [seqS, setS, retS, retN, exprS, nilS, ifS, parS, asgS, bindT, bindTs, bindF, callC, varF, retF, consF, nilF, iteV, truF, truD, notF, andF, orF, andV, orV, notV, chF, chT, bodyEnds, startE, optF, idxF, slcF, intF, noF, newL, tyD, isiT, isiB, lenB, absB, intB, gcdB, tupB, lstB, ltG, leG, gtG, geG, isG, isnG, o2I, isO, getS, addF, subF, mulF, eqG_ii, neG_ii, neG_bb, fdivG, modG, powG, raiseS, wipeE, itsF, z1]; exact h
  · obtain ⟨h1, h2⟩ := fr6_ok d hd
    simp [seqS, setS, retS, retN, exprS, nilS, ifS, parS, asgS, bindT, bindTs, bindF, callC, varF, retF, consF, nilF, iteV, truF, truD, notF, andF, orF, andV, orV, notV, chF, chT, bodyEnds, startE, optF, idxF, slcF, intF, noF, newL, tyD, isiT, isiB, lenB, absB, intB, gcdB, tupB, lstB, ltG, leG, gtG, geG, isG, isnG, o2I, isO, getS, addF, subF, mulF, eqG_ii, neG_ii, neG_bb, fdivG, modG, powG, raiseS, wipeE, lamF, z1]
    refine ⟨circleD, d, _, 15, rfl, circ_okD, by omega, h1, fr1.2, fun z => (by rw [circle_ok.2.1] at z; cases z), fun _ _ => ?_, fun _ z => (by rw [h2] at z; cases z), fun _ z => (by rw [h2] at z; cases z)⟩
    simp [w_frac]
    exact h
  · rw [map_all]
    have e : (rep fr6.length fW).length = 3 := rfl
    simp only [addF, getS, newL, if_true]
    exact ⟨by rw [e]; exact hl, hn⟩
theorem vc_a1 {n : Nat} {R : List D} (hS : S[n]? = some (.lst R)) (hl : R.length < sizeLine) (hn : E.nx (vaE s t sf x y dg ot sm ci fl od mo (some (.obj n))) (S.set n (.lst (R ++ [sW])))) :
    (exprS (appE (varF 13) (lamF w_law_error "" (callE cTot (consF non! nilF))))) E (vaE s t sf x y dg ot sm ci fl od mo (some (.obj n))) S := by
  simp only [exprS, appE, bindF, varF, List.getElem?_cons_succ, List.getElem?_cons_zero, isLo, hS]
  simp [seqS, setS, retS, retN, exprS, nilS, ifS, parS, asgS, bindT, bindTs, bindF, callC, varF, retF, consF, nilF, iteV, truF, truD, notF, andF, orF, andV, orV, notV, chF, chT, bodyEnds, startE, optF, idxF, slcF, intF, noF, newL, tyD, isiT, isiB, lenB, absB, intB, gcdB, tupB, lstB, ltG, leG, gtG, geG, isG, isnG, o2I, isO, getS, addF, subF, mulF, eqG_ii, neG_ii, neG_bb, fdivG, modG, powG, raiseS, wipeE, lamF]
  refine ⟨_, 15, rfl, rfl, by omega, fun z => (by cases z), fun _ => ?_⟩
  simp [w_surf, appF, hS]
  exact ⟨hl, hn⟩
theorem vc_a2 {n : Nat} {R : List D} (hS : S[n]? = some (.lst R)) (hl : R.length < sizeLine) (hn : E.nx (vaE s t sf x y dg ot sm ci fl od mo (some (.obj n))) (S.set n (.lst (R ++ [sW])))) :
    (exprS (appE (varF 13) (lamF w_law_error "" (callE cLineOn (consF non! (consF (tupE (consF (int! 1) (consF (int! 1) nilF))) nilF)))))) E (vaE s t sf x y dg ot sm ci fl od mo (some (.obj n))) S := by
  have hs := sizeLine_eq
  have z1 : ∀ k : Nat, k ≤ 100 → k ≤ sizeLine := fun k h => by omega
  simp only [exprS, appE, bindF, varF, List.getElem?_cons_succ, List.getElem?_cons_zero, isLo, hS]
  simp [seqS, setS, retS, retN, exprS, nilS, ifS, parS, asgS, bindT, bindTs, bindF, callC, varF, retF, consF, nilF, iteV, truF, truD, notF, andF, orF, andV, orV, notV, chF, chT, bodyEnds, startE, optF, idxF, slcF, intF, noF, newL, tyD, isiT, isiB, lenB, absB, intB, gcdB, tupB, lstB, ltG, leG, gtG, geG, isG, isnG, o2I, isO, getS, addF, subF, mulF, eqG_ii, neG_ii, neG_bb, fdivG, modG, powG, raiseS, wipeE, lamF, z1]
  refine ⟨_, _, 15, rfl, rfl, by omega, fr1.2, fun _ => ?_, fun z => (by cases z), fun z => (by cases z)⟩
  simp [w_surf, appF, hS]
  exact ⟨hl, hn⟩
def wordsA : List D := rep 4 sW ++ rep 4 fW ++ rep 4 fW ++ rep 2 sW ++ rep 3 fW ++ [sW] ++ [sW]
theorem eqG_obj {n : Nat} {L : List D} {y : D} {τ : Dx.Env} {S : Store} {Q : D → Store → Prop} {E : QX} (hS : S[n]? = some (.lst L)) (h : eqG (.lst L) y τ S Q E) : eqG (.obj n) y τ S Q E := by
  have e : eqO (.obj n) y S = eqO (.lst L) y S := by
    have hg : getS S (.obj n) = .lst L := by simp [getS, hS]
    have hg2 : getS S (.lst L) = .lst L := rfl
    unfold eqO
    rw [hg, hg2]
  unfold eqG optF at h ⊢
  rw [e]
  exact h
theorem rep1 {w : D} {k : Int} {n : Nat} {τ : Dx.Env} {S : Store} {Q : D → Store → Prop} {E : QX} (hk : k = (n : Int)) (hn : n ≤ 100) (q : Q (.lst (rep n w)) S) : mulF false (.lst [w]) (.int k) τ S Q E := by
  have hs := sizeLine_eq
  subst hk
  have e : (List.replicate n [w]).flatten = rep n w := by
    clear q hn
    unfold rep
    induction n with
    | zero => rfl
    | succ n ih => rw [List.replicate_succ, List.flatten_cons, ih, List.replicate_succ]; rfl
  simp only [mulF, getS, newL, Int.toNat_natCast, e]
  refine ⟨⟨by omega, by omega, ?_⟩, q⟩
  show 1 * n ≤ sizeLine
  omega
theorem lst1 {w : D} {τ : Dx.Env} {S : Store} {Q : D → Store → Prop} {E : QX} (q : Q (.lst [w]) S) : [w].length ≤ sizeLine ∧ newL false [w] τ S Q E := by
  have hs := sizeLine_eq
  have e : [w].length = 1 := rfl
  exact ⟨by rw [e]; omega, q⟩
theorem cat1 {x y : List D} {τ : Dx.Env} {S : Store} {Q : D → Store → Prop} {E : QX} (h : x.length + y.length ≤ 100) (q : Q (.lst (x ++ y)) S) : addF false (.lst x) (.lst y) τ S Q E := by
  have hs := sizeLine_eq
  simp only [addF, getS, newL]
  exact ⟨by omega, q⟩
theorem vc22 {n : Nat} {Q : D → Store → Prop} (he : E.rt = Q) (hS : S[n]? = some (.lst wordsA)) (hq : Q (.bl true) S) : fslaw_22 E (vaE s t sf x y dg ot sm ci fl od mo (some (.obj n))) S := by
  have lr : ∀ n w, (rep n w).length = n := fun n w => List.length_replicate
  simp only [fslaw_22, retS, binE, bindF, varF, lstE, consF, nilF, retF, List.getElem?_cons_succ, List.getElem?_cons_zero]
  refine lst1 (rep1 (n := 4) rfl (by omega) (lst1 <| rep1 (n := 8) rfl (by omega) (cat1 (by simp only [List.length_append, lr]; omega) (lst1 <| rep1 (n := 2) rfl (by omega) (cat1 (by simp only [List.length_append, lr]; omega) (lst1 <| rep1 (n := 3) rfl (by omega) (cat1 (by simp only [List.length_append, lr]; omega) (lst1 <| rep1 (n := 2) rfl (by omega) (cat1 (by simp only [List.length_append, lr]; omega) ?_)))))))))
  refine eqG_obj hS (eqG_of (by decide +kernel) (by decide +kernel) (by decide +kernel) (by decide +kernel) ?_)
  have e : ∀ L : List D, eqD (.lst wordsA) (.lst L) = true → Q (.bl (eqD (.lst wordsA) (.lst L))) S := fun L h => by rw [h]; exact hq
  rw [he]
  exact e _ (by decide +kernel)
end
def cLaw : Ct := fun ds S Q _ => ∃ ns, ds = [.lst (scr ns)] ∧ ns.length ≤ 63 ∧ S = [] ∧ ∀ S', Q (.bl true) S'
section
variable {E : DEnds} {S : Store} {s t sf x y dg ot sm ci fl od mo wd : Option D}
theorem tC {R : List D} {Q : D → Store → Prop} (he : E.rt = Q) (hl : R.length + 2 ≤ 100) (hw : R ++ [sW] ++ [sW] = wordsA) (hq : ∀ S, Q (.bl true) S) :
    seqS (exprS (appE (varF 13) (lamF w_law_error "" (callE cTot (consF non! nilF))))) (seqS (exprS (appE (varF 13) (lamF w_law_error "" (callE cLineOn (consF non! (consF (tupE (consF (int! 1) (consF (int! 1) nilF))) nilF)))))) fslaw_22) E (vaE s t sf x y dg ot sm ci fl od mo (some (.obj S.length))) (S ++ [.lst R]) := by
  have hs := sizeLine_eq
  refine vc_a1 (E := _) snoc_get (by omega) ?_
  rw [snoc_set]
  refine vc_a2 (E := _) snoc_get (by rw [List.length_append]; show R.length + 1 < sizeLine; omega) ?_
  rw [snoc_set, hw]
  exact vc22 (E := _) he snoc_get (hq _)
theorem tB {Q : D → Store → Prop} (he : E.rt = Q) (hq : ∀ S, Q (.bl true) S) :
    seqS (fslaw_17 cValAt) (seqS (fslaw_18 cLineOn) (seqS (fslaw_19 cValAt) (seqS (fslaw_20 cTurned) (seqS (fslaw_21 cValAt) (seqS (exprS (appE (varF 13) (lamF w_law_error "" (callE cTot (consF non! nilF))))) (seqS (exprS (appE (varF 13) (lamF w_law_error "" (callE cLineOn (consF non! (consF (tupE (consF (int! 1) (consF (int! 1) nilF))) nilF)))))) fslaw_22)))))) E (vaE s t sf x y dg ot sm (some circleD) fl (some (.tup oddA)) mo wd) S := by
  have hs := sizeLine_eq
  have lr : ∀ n w, (rep n w).length = n := fun n w => List.length_replicate
  refine vc17 (E := _) (vc18 (E := _) (by rw [lr]; omega) (vc19 (E := _) (by rw [List.length_append, lr, lr]; omega) (vc20 (E := _) (by simp only [List.length_append, lr]; omega) (vc21 (E := _) (by simp only [List.length_append, lr]; omega) ?_))))
  exact tC he (by simp only [List.length_append, lr]; omega) rfl hq
theorem tA {Q : D → Store → Prop} (he : E.rt = Q) (hq : ∀ S, Q (.bl true) S) {rest : FS} (hr : ∀ {fl mo wd}, rest E (vaE s t sf x y dg ot sm (some circleD) fl (some (.tup oddA)) mo wd) S) :
    seqS fslaw_12 (seqS fslaw_13 (seqS fslaw_14 (seqS (fslaw_15 cCurve) (seqS (fslaw_16 cCurve) rest)))) E (vaE s t sf x y dg ot sm (some circleD) fl od mo wd) S :=
  vb12 (E := _) (vb13 (E := _) (vb14 (E := _) (vb15 (E := _) (vb16 (E := _) hr))))
end
theorem law_ok (ds : List D) (S : Store) (Q : D → Store → Prop) (E : QX) (h : cLaw ds S Q E) : fslaw cLCup cLFrac cDrawn (cAlike 3) cTot cVal cValAt cLLn cLineOn cTurned cCurve (bodyEnds Q E) (startE Nlaw ds) S := by
  obtain ⟨ns, rfl, hl, rfl, hq⟩ := h
  have hs := sizeLine_eq
  have z1 : ∀ k : Nat, k ≤ 100 → k ≤ sizeLine := fun k h => by omega
  have z2 : ∀ k : Nat, k < 100 → k < sizeLine := fun k h => by omega
  unfold fslaw
  refine ⟨ns, rfl, hl, rfl, fun a b => ?_⟩
  refine va6 (E := _) ⟨a, b, rfl⟩ fun S1 t sf x y dg ot sm => ?_
  refine vb7 (E := _) (vb8 (E := _) fun S2 => vb9 (E := _) (vb10 (E := _) (vb11 (E := _) fun S3 => ?_)))
  exact tA rfl hq (fun {_ _ _} => tB rfl hq)
end LawX

set_option Elab.async false
set_option linter.all false
set_option maxRecDepth 100000
set_option maxHeartbeats 0
namespace LawX
open PySem PySem.Spec PyProof.Rows L2 Dx
def fa0 : List He.Fa := [.glo "_law_cup", .glo "is_ascending", .glo "is_tuple_of", .glo "is_whole", .glo "fits_term", .glo "fits_surface", .glo "need_surface", .glo "turned_in", .glo "turned", .glo "is_integer", .glo "fits_any", .glo "fits_fraction", .glo "need_fraction", .glo "made", .glo "plus", .glo "times", .glo "power", .glo "raised", .glo "value_in", .glo "value_at", .glo "trimmed", .glo "content", .glo "lessened", .glo "primitive", .glo "high_y", .glo "line_by", .glo "line_on", .glo "degree_in", .glo "fits_curve", .glo "is_curve"]
def fa1 : List He.Fa := [.glo "_law_error", .glo "_law_roll", .glo "_law_some", .glo "_law_drawn", .glo "_law_common", .glo "_law_made", .glo "_law_fraction", .glo "_law_alike", .glo "total_degree", .glo "_law_plus", .glo "_law_times", .glo "_law_value_at", .glo "_law_line", .glo "law", .glo "InvalidSurface", .glo "InvalidFraction", .glo "NearError", .glo "InvalidCurve", .glo "SharePart", .glo "InvalidNumber", .glo "NONE", .free "list", .free "abs", .free "int", .free "zip", .free "all", .free "tuple", .free "isinstance", .free "len", .free "bool"]
def fa2 : List He.Fa := [.free "sorted", .free "range", .free "max", .int "POWER" 4, .int "COEFFICIENT_lines" 1000000, .int "TERMS" 15, .int "GREATEST" 1000000000000, .int "DEGREE" 3, .int "COEFFICIENT_planevalues" 1000, .exc "InvalidSurface", .exc "InvalidFraction", .exm "NearError" "InvalidCurve" false, .exm "NearError" "SharePart" false, .exm "NearError" "InvalidSurface" false, .exm "NearError" "InvalidFraction" false, .exm "NearError" "InvalidNumber" false, .exm "NearError" "NearError" true, .exm "InvalidFraction" "InvalidCurve" false, .exm "InvalidFraction" "SharePart" false, .exm "InvalidFraction" "InvalidSurface" false, .exm "InvalidFraction" "InvalidFraction" true, .exm "InvalidSurface" "InvalidCurve" false, .exm "InvalidSurface" "SharePart" false, .exm "InvalidSurface" "InvalidSurface" true, .exm "InvalidNumber" "InvalidCurve" false, .exm "InvalidNumber" "SharePart" false, .exm "InvalidNumber" "InvalidSurface" false, .exm "InvalidNumber" "InvalidFraction" false, .exm "InvalidNumber" "InvalidNumber" true, .exm "InvalidCurve" "InvalidCurve" true]
def fa3 : List He.Fa := [.exm "SharePart" "InvalidCurve" false, .exm "SharePart" "SharePart" true]
def fa : List He.Fa := fa0 ++ fa1 ++ fa2 ++ fa3
def fnl : List He.DefD := [dd "_law_cup" st_law_cup, dd "is_ascending" stis_ascending, dd "is_tuple_of" stis_tuple_of, dd "is_whole" stis_whole, dd "fits_term" stfits_term, dd "fits_surface" stfits_surface, dd "need_surface" stneed_surface, dd "turned_in" stturned_in, dd "turned" stturned, dd "is_integer" stis_integer, dd "fits_any" stfits_any, dd "fits_fraction" stfits_fraction, dd "need_fraction" stneed_fraction, dd "made" stmade, dd "plus" stplus, dd "times" sttimes, dd "power" stpower, dd "raised" straised, dd "value_in" stvalue_in, dd "value_at" stvalue_at, dd "trimmed" sttrimmed, dd "content" stcontent, dd "lessened" stlessened, dd "primitive" stprimitive, dd "high_y" sthigh_y, dd "line_by" stline_by, dd "line_on" stline_on, dd "degree_in" stdegree_in, dd "fits_curve" stfits_curve, dd "is_curve" stis_curve, dd "_law_error" st_law_error, dd "_law_roll" st_law_roll, dd "_law_some" st_law_some, dd "_law_drawn" st_law_drawn, dd "_law_common" st_law_common, dd "_law_made" st_law_made, dd "_law_fraction" st_law_fraction, dd "_law_alike" st_law_alike, dd "total_degree" sttotal_degree, dd "_law_plus" st_law_plus, dd "_law_times" st_law_times, dd "_law_value_at" st_law_value_at, dd "_law_line" st_law_line, dd "law" stlaw]
def tf : List He.Defn := [("law", none)]
def ex (K : PySem.W.Frag) : Bool := plainL K && (He.eqO (PySem.W.nsIn K mainGlobals "gcd") (some (some (.builtin "math.gcd"))) && (He.tupB K "NONE" [.int 0, .int 1]))
theorem chain {P : Program} {w : World} {mg : Str → Option Value} {h : Heap} {K : PySem.W.Frag} (X : K.In h) (Gm : h.Ns mainGlobals mg) (Y : He.SaysX fa fnl [] tf ex w h K) (base : Heap) (Kb : K.In base) (Gb : base.Ns mainGlobals mg)
    (TBs : ∀ p ∈ tf, LamX.TabB base mg (He.cT K p).1 (He.cT K p).2) : Has P w ⟨K, mg, tabsOf tf K⟩ base "law" Plaw 8 cLaw := by
  have g__law_cup : mg "_law_cup" = some (.ref (He.ga K "_law_cup")) := He.glo_ok X Gm (Y.t.d.facts (f := .glo "_law_cup") (List.mem_append_left _ (List.mem_append_left _ (List.mem_append_left _ (List.Mem.head _)))))
  have g_is_ascending : mg "is_ascending" = some (.ref (He.ga K "is_ascending")) := He.glo_ok X Gm (Y.t.d.facts (f := .glo "is_ascending") (List.mem_append_left _ (List.mem_append_left _ (List.mem_append_left _ (List.Mem.tail _ (List.Mem.head _))))))
  have g_is_tuple_of : mg "is_tuple_of" = some (.ref (He.ga K "is_tuple_of")) := He.glo_ok X Gm (Y.t.d.facts (f := .glo "is_tuple_of") (List.mem_append_left _ (List.mem_append_left _ (List.mem_append_left _ (List.Mem.tail _ (List.Mem.tail _ (List.Mem.head _)))))))
  have g_is_whole : mg "is_whole" = some (.ref (He.ga K "is_whole")) := He.glo_ok X Gm (Y.t.d.facts (f := .glo "is_whole") (List.mem_append_left _ (List.mem_append_left _ (List.mem_append_left _ (List.Mem.tail _ (List.Mem.tail _ (List.Mem.tail _ (List.Mem.head _))))))))
  have g_fits_term : mg "fits_term" = some (.ref (He.ga K "fits_term")) := He.glo_ok X Gm (Y.t.d.facts (f := .glo "fits_term") (List.mem_append_left _ (List.mem_append_left _ (List.mem_append_left _ (List.Mem.tail _ (List.Mem.tail _ (List.Mem.tail _ (List.Mem.tail _ (List.Mem.head _)))))))))
  have g_fits_surface : mg "fits_surface" = some (.ref (He.ga K "fits_surface")) := He.glo_ok X Gm (Y.t.d.facts (f := .glo "fits_surface") (List.mem_append_left _ (List.mem_append_left _ (List.mem_append_left _ (List.Mem.tail _ (List.Mem.tail _ (List.Mem.tail _ (List.Mem.tail _ (List.Mem.tail _ (List.Mem.head _))))))))))
  have g_need_surface : mg "need_surface" = some (.ref (He.ga K "need_surface")) := He.glo_ok X Gm (Y.t.d.facts (f := .glo "need_surface") (List.mem_append_left _ (List.mem_append_left _ (List.mem_append_left _ (List.Mem.tail _ (List.Mem.tail _ (List.Mem.tail _ (List.Mem.tail _ (List.Mem.tail _ (List.Mem.tail _ (List.Mem.head _)))))))))))
  have g_turned_in : mg "turned_in" = some (.ref (He.ga K "turned_in")) := He.glo_ok X Gm (Y.t.d.facts (f := .glo "turned_in") (List.mem_append_left _ (List.mem_append_left _ (List.mem_append_left _ (List.Mem.tail _ (List.Mem.tail _ (List.Mem.tail _ (List.Mem.tail _ (List.Mem.tail _ (List.Mem.tail _ (List.Mem.tail _ (List.Mem.head _))))))))))))
  have g_turned : mg "turned" = some (.ref (He.ga K "turned")) := He.glo_ok X Gm (Y.t.d.facts (f := .glo "turned") (List.mem_append_left _ (List.mem_append_left _ (List.mem_append_left _ (List.Mem.tail _ (List.Mem.tail _ (List.Mem.tail _ (List.Mem.tail _ (List.Mem.tail _ (List.Mem.tail _ (List.Mem.tail _ (List.Mem.tail _ (List.Mem.head _)))))))))))))
  have g_is_integer : mg "is_integer" = some (.ref (He.ga K "is_integer")) := He.glo_ok X Gm (Y.t.d.facts (f := .glo "is_integer") (List.mem_append_left _ (List.mem_append_left _ (List.mem_append_left _ (List.Mem.tail _ (List.Mem.tail _ (List.Mem.tail _ (List.Mem.tail _ (List.Mem.tail _ (List.Mem.tail _ (List.Mem.tail _ (List.Mem.tail _ (List.Mem.tail _ (List.Mem.head _))))))))))))))
  have g_fits_any : mg "fits_any" = some (.ref (He.ga K "fits_any")) := He.glo_ok X Gm (Y.t.d.facts (f := .glo "fits_any") (List.mem_append_left _ (List.mem_append_left _ (List.mem_append_left _ (List.Mem.tail _ (List.Mem.tail _ (List.Mem.tail _ (List.Mem.tail _ (List.Mem.tail _ (List.Mem.tail _ (List.Mem.tail _ (List.Mem.tail _ (List.Mem.tail _ (List.Mem.tail _ (List.Mem.head _)))))))))))))))
  have g_fits_fraction : mg "fits_fraction" = some (.ref (He.ga K "fits_fraction")) := He.glo_ok X Gm (Y.t.d.facts (f := .glo "fits_fraction") (List.mem_append_left _ (List.mem_append_left _ (List.mem_append_left _ (List.Mem.tail _ (List.Mem.tail _ (List.Mem.tail _ (List.Mem.tail _ (List.Mem.tail _ (List.Mem.tail _ (List.Mem.tail _ (List.Mem.tail _ (List.Mem.tail _ (List.Mem.tail _ (List.Mem.tail _ (List.Mem.head _))))))))))))))))
  have g_need_fraction : mg "need_fraction" = some (.ref (He.ga K "need_fraction")) := He.glo_ok X Gm (Y.t.d.facts (f := .glo "need_fraction") (List.mem_append_left _ (List.mem_append_left _ (List.mem_append_left _ (List.Mem.tail _ (List.Mem.tail _ (List.Mem.tail _ (List.Mem.tail _ (List.Mem.tail _ (List.Mem.tail _ (List.Mem.tail _ (List.Mem.tail _ (List.Mem.tail _ (List.Mem.tail _ (List.Mem.tail _ (List.Mem.tail _ (List.Mem.head _)))))))))))))))))
  have g_made : mg "made" = some (.ref (He.ga K "made")) := He.glo_ok X Gm (Y.t.d.facts (f := .glo "made") (List.mem_append_left _ (List.mem_append_left _ (List.mem_append_left _ (List.Mem.tail _ (List.Mem.tail _ (List.Mem.tail _ (List.Mem.tail _ (List.Mem.tail _ (List.Mem.tail _ (List.Mem.tail _ (List.Mem.tail _ (List.Mem.tail _ (List.Mem.tail _ (List.Mem.tail _ (List.Mem.tail _ (List.Mem.tail _ (List.Mem.head _))))))))))))))))))
  have g_plus : mg "plus" = some (.ref (He.ga K "plus")) := He.glo_ok X Gm (Y.t.d.facts (f := .glo "plus") (List.mem_append_left _ (List.mem_append_left _ (List.mem_append_left _ (List.Mem.tail _ (List.Mem.tail _ (List.Mem.tail _ (List.Mem.tail _ (List.Mem.tail _ (List.Mem.tail _ (List.Mem.tail _ (List.Mem.tail _ (List.Mem.tail _ (List.Mem.tail _ (List.Mem.tail _ (List.Mem.tail _ (List.Mem.tail _ (List.Mem.tail _ (List.Mem.head _)))))))))))))))))))
  have g_times : mg "times" = some (.ref (He.ga K "times")) := He.glo_ok X Gm (Y.t.d.facts (f := .glo "times") (List.mem_append_left _ (List.mem_append_left _ (List.mem_append_left _ (List.Mem.tail _ (List.Mem.tail _ (List.Mem.tail _ (List.Mem.tail _ (List.Mem.tail _ (List.Mem.tail _ (List.Mem.tail _ (List.Mem.tail _ (List.Mem.tail _ (List.Mem.tail _ (List.Mem.tail _ (List.Mem.tail _ (List.Mem.tail _ (List.Mem.tail _ (List.Mem.tail _ (List.Mem.head _))))))))))))))))))))
  have g_power : mg "power" = some (.ref (He.ga K "power")) := He.glo_ok X Gm (Y.t.d.facts (f := .glo "power") (List.mem_append_left _ (List.mem_append_left _ (List.mem_append_left _ (List.Mem.tail _ (List.Mem.tail _ (List.Mem.tail _ (List.Mem.tail _ (List.Mem.tail _ (List.Mem.tail _ (List.Mem.tail _ (List.Mem.tail _ (List.Mem.tail _ (List.Mem.tail _ (List.Mem.tail _ (List.Mem.tail _ (List.Mem.tail _ (List.Mem.tail _ (List.Mem.tail _ (List.Mem.tail _ (List.Mem.head _)))))))))))))))))))))
  have g_raised : mg "raised" = some (.ref (He.ga K "raised")) := He.glo_ok X Gm (Y.t.d.facts (f := .glo "raised") (List.mem_append_left _ (List.mem_append_left _ (List.mem_append_left _ (List.Mem.tail _ (List.Mem.tail _ (List.Mem.tail _ (List.Mem.tail _ (List.Mem.tail _ (List.Mem.tail _ (List.Mem.tail _ (List.Mem.tail _ (List.Mem.tail _ (List.Mem.tail _ (List.Mem.tail _ (List.Mem.tail _ (List.Mem.tail _ (List.Mem.tail _ (List.Mem.tail _ (List.Mem.tail _ (List.Mem.tail _ (List.Mem.head _))))))))))))))))))))))
  have g_value_in : mg "value_in" = some (.ref (He.ga K "value_in")) := He.glo_ok X Gm (Y.t.d.facts (f := .glo "value_in") (List.mem_append_left _ (List.mem_append_left _ (List.mem_append_left _ (List.Mem.tail _ (List.Mem.tail _ (List.Mem.tail _ (List.Mem.tail _ (List.Mem.tail _ (List.Mem.tail _ (List.Mem.tail _ (List.Mem.tail _ (List.Mem.tail _ (List.Mem.tail _ (List.Mem.tail _ (List.Mem.tail _ (List.Mem.tail _ (List.Mem.tail _ (List.Mem.tail _ (List.Mem.tail _ (List.Mem.tail _ (List.Mem.tail _ (List.Mem.head _)))))))))))))))))))))))
  have g_value_at : mg "value_at" = some (.ref (He.ga K "value_at")) := He.glo_ok X Gm (Y.t.d.facts (f := .glo "value_at") (List.mem_append_left _ (List.mem_append_left _ (List.mem_append_left _ (List.Mem.tail _ (List.Mem.tail _ (List.Mem.tail _ (List.Mem.tail _ (List.Mem.tail _ (List.Mem.tail _ (List.Mem.tail _ (List.Mem.tail _ (List.Mem.tail _ (List.Mem.tail _ (List.Mem.tail _ (List.Mem.tail _ (List.Mem.tail _ (List.Mem.tail _ (List.Mem.tail _ (List.Mem.tail _ (List.Mem.tail _ (List.Mem.tail _ (List.Mem.tail _ (List.Mem.head _))))))))))))))))))))))))
  have g_trimmed : mg "trimmed" = some (.ref (He.ga K "trimmed")) := He.glo_ok X Gm (Y.t.d.facts (f := .glo "trimmed") (List.mem_append_left _ (List.mem_append_left _ (List.mem_append_left _ (List.Mem.tail _ (List.Mem.tail _ (List.Mem.tail _ (List.Mem.tail _ (List.Mem.tail _ (List.Mem.tail _ (List.Mem.tail _ (List.Mem.tail _ (List.Mem.tail _ (List.Mem.tail _ (List.Mem.tail _ (List.Mem.tail _ (List.Mem.tail _ (List.Mem.tail _ (List.Mem.tail _ (List.Mem.tail _ (List.Mem.tail _ (List.Mem.tail _ (List.Mem.tail _ (List.Mem.tail _ (List.Mem.head _)))))))))))))))))))))))))
  have g_content : mg "content" = some (.ref (He.ga K "content")) := He.glo_ok X Gm (Y.t.d.facts (f := .glo "content") (List.mem_append_left _ (List.mem_append_left _ (List.mem_append_left _ (List.Mem.tail _ (List.Mem.tail _ (List.Mem.tail _ (List.Mem.tail _ (List.Mem.tail _ (List.Mem.tail _ (List.Mem.tail _ (List.Mem.tail _ (List.Mem.tail _ (List.Mem.tail _ (List.Mem.tail _ (List.Mem.tail _ (List.Mem.tail _ (List.Mem.tail _ (List.Mem.tail _ (List.Mem.tail _ (List.Mem.tail _ (List.Mem.tail _ (List.Mem.tail _ (List.Mem.tail _ (List.Mem.tail _ (List.Mem.head _))))))))))))))))))))))))))
  have g_lessened : mg "lessened" = some (.ref (He.ga K "lessened")) := He.glo_ok X Gm (Y.t.d.facts (f := .glo "lessened") (List.mem_append_left _ (List.mem_append_left _ (List.mem_append_left _ (List.Mem.tail _ (List.Mem.tail _ (List.Mem.tail _ (List.Mem.tail _ (List.Mem.tail _ (List.Mem.tail _ (List.Mem.tail _ (List.Mem.tail _ (List.Mem.tail _ (List.Mem.tail _ (List.Mem.tail _ (List.Mem.tail _ (List.Mem.tail _ (List.Mem.tail _ (List.Mem.tail _ (List.Mem.tail _ (List.Mem.tail _ (List.Mem.tail _ (List.Mem.tail _ (List.Mem.tail _ (List.Mem.tail _ (List.Mem.tail _ (List.Mem.head _)))))))))))))))))))))))))))
  have g_primitive : mg "primitive" = some (.ref (He.ga K "primitive")) := He.glo_ok X Gm (Y.t.d.facts (f := .glo "primitive") (List.mem_append_left _ (List.mem_append_left _ (List.mem_append_left _ (List.Mem.tail _ (List.Mem.tail _ (List.Mem.tail _ (List.Mem.tail _ (List.Mem.tail _ (List.Mem.tail _ (List.Mem.tail _ (List.Mem.tail _ (List.Mem.tail _ (List.Mem.tail _ (List.Mem.tail _ (List.Mem.tail _ (List.Mem.tail _ (List.Mem.tail _ (List.Mem.tail _ (List.Mem.tail _ (List.Mem.tail _ (List.Mem.tail _ (List.Mem.tail _ (List.Mem.tail _ (List.Mem.tail _ (List.Mem.tail _ (List.Mem.tail _ (List.Mem.head _))))))))))))))))))))))))))))
  have g_high_y : mg "high_y" = some (.ref (He.ga K "high_y")) := He.glo_ok X Gm (Y.t.d.facts (f := .glo "high_y") (List.mem_append_left _ (List.mem_append_left _ (List.mem_append_left _ (List.Mem.tail _ (List.Mem.tail _ (List.Mem.tail _ (List.Mem.tail _ (List.Mem.tail _ (List.Mem.tail _ (List.Mem.tail _ (List.Mem.tail _ (List.Mem.tail _ (List.Mem.tail _ (List.Mem.tail _ (List.Mem.tail _ (List.Mem.tail _ (List.Mem.tail _ (List.Mem.tail _ (List.Mem.tail _ (List.Mem.tail _ (List.Mem.tail _ (List.Mem.tail _ (List.Mem.tail _ (List.Mem.tail _ (List.Mem.tail _ (List.Mem.tail _ (List.Mem.tail _ (List.Mem.head _)))))))))))))))))))))))))))))
  have g_line_by : mg "line_by" = some (.ref (He.ga K "line_by")) := He.glo_ok X Gm (Y.t.d.facts (f := .glo "line_by") (List.mem_append_left _ (List.mem_append_left _ (List.mem_append_left _ (List.Mem.tail _ (List.Mem.tail _ (List.Mem.tail _ (List.Mem.tail _ (List.Mem.tail _ (List.Mem.tail _ (List.Mem.tail _ (List.Mem.tail _ (List.Mem.tail _ (List.Mem.tail _ (List.Mem.tail _ (List.Mem.tail _ (List.Mem.tail _ (List.Mem.tail _ (List.Mem.tail _ (List.Mem.tail _ (List.Mem.tail _ (List.Mem.tail _ (List.Mem.tail _ (List.Mem.tail _ (List.Mem.tail _ (List.Mem.tail _ (List.Mem.tail _ (List.Mem.tail _ (List.Mem.tail _ (List.Mem.head _))))))))))))))))))))))))))))))
  have g_line_on : mg "line_on" = some (.ref (He.ga K "line_on")) := He.glo_ok X Gm (Y.t.d.facts (f := .glo "line_on") (List.mem_append_left _ (List.mem_append_left _ (List.mem_append_left _ (List.Mem.tail _ (List.Mem.tail _ (List.Mem.tail _ (List.Mem.tail _ (List.Mem.tail _ (List.Mem.tail _ (List.Mem.tail _ (List.Mem.tail _ (List.Mem.tail _ (List.Mem.tail _ (List.Mem.tail _ (List.Mem.tail _ (List.Mem.tail _ (List.Mem.tail _ (List.Mem.tail _ (List.Mem.tail _ (List.Mem.tail _ (List.Mem.tail _ (List.Mem.tail _ (List.Mem.tail _ (List.Mem.tail _ (List.Mem.tail _ (List.Mem.tail _ (List.Mem.tail _ (List.Mem.tail _ (List.Mem.tail _ (List.Mem.head _)))))))))))))))))))))))))))))))
  have g_degree_in : mg "degree_in" = some (.ref (He.ga K "degree_in")) := He.glo_ok X Gm (Y.t.d.facts (f := .glo "degree_in") (List.mem_append_left _ (List.mem_append_left _ (List.mem_append_left _ (List.Mem.tail _ (List.Mem.tail _ (List.Mem.tail _ (List.Mem.tail _ (List.Mem.tail _ (List.Mem.tail _ (List.Mem.tail _ (List.Mem.tail _ (List.Mem.tail _ (List.Mem.tail _ (List.Mem.tail _ (List.Mem.tail _ (List.Mem.tail _ (List.Mem.tail _ (List.Mem.tail _ (List.Mem.tail _ (List.Mem.tail _ (List.Mem.tail _ (List.Mem.tail _ (List.Mem.tail _ (List.Mem.tail _ (List.Mem.tail _ (List.Mem.tail _ (List.Mem.tail _ (List.Mem.tail _ (List.Mem.tail _ (List.Mem.tail _ (List.Mem.head _))))))))))))))))))))))))))))))))
  have g_fits_curve : mg "fits_curve" = some (.ref (He.ga K "fits_curve")) := He.glo_ok X Gm (Y.t.d.facts (f := .glo "fits_curve") (List.mem_append_left _ (List.mem_append_left _ (List.mem_append_left _ (List.Mem.tail _ (List.Mem.tail _ (List.Mem.tail _ (List.Mem.tail _ (List.Mem.tail _ (List.Mem.tail _ (List.Mem.tail _ (List.Mem.tail _ (List.Mem.tail _ (List.Mem.tail _ (List.Mem.tail _ (List.Mem.tail _ (List.Mem.tail _ (List.Mem.tail _ (List.Mem.tail _ (List.Mem.tail _ (List.Mem.tail _ (List.Mem.tail _ (List.Mem.tail _ (List.Mem.tail _ (List.Mem.tail _ (List.Mem.tail _ (List.Mem.tail _ (List.Mem.tail _ (List.Mem.tail _ (List.Mem.tail _ (List.Mem.tail _ (List.Mem.tail _ (List.Mem.head _)))))))))))))))))))))))))))))))))
  have g_is_curve : mg "is_curve" = some (.ref (He.ga K "is_curve")) := He.glo_ok X Gm (Y.t.d.facts (f := .glo "is_curve") (List.mem_append_left _ (List.mem_append_left _ (List.mem_append_left _ (List.Mem.tail _ (List.Mem.tail _ (List.Mem.tail _ (List.Mem.tail _ (List.Mem.tail _ (List.Mem.tail _ (List.Mem.tail _ (List.Mem.tail _ (List.Mem.tail _ (List.Mem.tail _ (List.Mem.tail _ (List.Mem.tail _ (List.Mem.tail _ (List.Mem.tail _ (List.Mem.tail _ (List.Mem.tail _ (List.Mem.tail _ (List.Mem.tail _ (List.Mem.tail _ (List.Mem.tail _ (List.Mem.tail _ (List.Mem.tail _ (List.Mem.tail _ (List.Mem.tail _ (List.Mem.tail _ (List.Mem.tail _ (List.Mem.tail _ (List.Mem.tail _ (List.Mem.tail _ (List.Mem.head _))))))))))))))))))))))))))))))))))
  have g__law_error : mg "_law_error" = some (.ref (He.ga K "_law_error")) := He.glo_ok X Gm (Y.t.d.facts (f := .glo "_law_error") (List.mem_append_left _ (List.mem_append_left _ (List.mem_append_right _ (List.Mem.head _)))))
  have g__law_roll : mg "_law_roll" = some (.ref (He.ga K "_law_roll")) := He.glo_ok X Gm (Y.t.d.facts (f := .glo "_law_roll") (List.mem_append_left _ (List.mem_append_left _ (List.mem_append_right _ (List.Mem.tail _ (List.Mem.head _))))))
  have g__law_some : mg "_law_some" = some (.ref (He.ga K "_law_some")) := He.glo_ok X Gm (Y.t.d.facts (f := .glo "_law_some") (List.mem_append_left _ (List.mem_append_left _ (List.mem_append_right _ (List.Mem.tail _ (List.Mem.tail _ (List.Mem.head _)))))))
  have g__law_drawn : mg "_law_drawn" = some (.ref (He.ga K "_law_drawn")) := He.glo_ok X Gm (Y.t.d.facts (f := .glo "_law_drawn") (List.mem_append_left _ (List.mem_append_left _ (List.mem_append_right _ (List.Mem.tail _ (List.Mem.tail _ (List.Mem.tail _ (List.Mem.head _))))))))
  have g__law_common : mg "_law_common" = some (.ref (He.ga K "_law_common")) := He.glo_ok X Gm (Y.t.d.facts (f := .glo "_law_common") (List.mem_append_left _ (List.mem_append_left _ (List.mem_append_right _ (List.Mem.tail _ (List.Mem.tail _ (List.Mem.tail _ (List.Mem.tail _ (List.Mem.head _)))))))))
  have g__law_made : mg "_law_made" = some (.ref (He.ga K "_law_made")) := He.glo_ok X Gm (Y.t.d.facts (f := .glo "_law_made") (List.mem_append_left _ (List.mem_append_left _ (List.mem_append_right _ (List.Mem.tail _ (List.Mem.tail _ (List.Mem.tail _ (List.Mem.tail _ (List.Mem.tail _ (List.Mem.head _))))))))))
  have g__law_fraction : mg "_law_fraction" = some (.ref (He.ga K "_law_fraction")) := He.glo_ok X Gm (Y.t.d.facts (f := .glo "_law_fraction") (List.mem_append_left _ (List.mem_append_left _ (List.mem_append_right _ (List.Mem.tail _ (List.Mem.tail _ (List.Mem.tail _ (List.Mem.tail _ (List.Mem.tail _ (List.Mem.tail _ (List.Mem.head _)))))))))))
  have g__law_alike : mg "_law_alike" = some (.ref (He.ga K "_law_alike")) := He.glo_ok X Gm (Y.t.d.facts (f := .glo "_law_alike") (List.mem_append_left _ (List.mem_append_left _ (List.mem_append_right _ (List.Mem.tail _ (List.Mem.tail _ (List.Mem.tail _ (List.Mem.tail _ (List.Mem.tail _ (List.Mem.tail _ (List.Mem.tail _ (List.Mem.head _))))))))))))
  have g_total_degree : mg "total_degree" = some (.ref (He.ga K "total_degree")) := He.glo_ok X Gm (Y.t.d.facts (f := .glo "total_degree") (List.mem_append_left _ (List.mem_append_left _ (List.mem_append_right _ (List.Mem.tail _ (List.Mem.tail _ (List.Mem.tail _ (List.Mem.tail _ (List.Mem.tail _ (List.Mem.tail _ (List.Mem.tail _ (List.Mem.tail _ (List.Mem.head _)))))))))))))
  have g__law_plus : mg "_law_plus" = some (.ref (He.ga K "_law_plus")) := He.glo_ok X Gm (Y.t.d.facts (f := .glo "_law_plus") (List.mem_append_left _ (List.mem_append_left _ (List.mem_append_right _ (List.Mem.tail _ (List.Mem.tail _ (List.Mem.tail _ (List.Mem.tail _ (List.Mem.tail _ (List.Mem.tail _ (List.Mem.tail _ (List.Mem.tail _ (List.Mem.tail _ (List.Mem.head _))))))))))))))
  have g__law_times : mg "_law_times" = some (.ref (He.ga K "_law_times")) := He.glo_ok X Gm (Y.t.d.facts (f := .glo "_law_times") (List.mem_append_left _ (List.mem_append_left _ (List.mem_append_right _ (List.Mem.tail _ (List.Mem.tail _ (List.Mem.tail _ (List.Mem.tail _ (List.Mem.tail _ (List.Mem.tail _ (List.Mem.tail _ (List.Mem.tail _ (List.Mem.tail _ (List.Mem.tail _ (List.Mem.head _)))))))))))))))
  have g__law_value_at : mg "_law_value_at" = some (.ref (He.ga K "_law_value_at")) := He.glo_ok X Gm (Y.t.d.facts (f := .glo "_law_value_at") (List.mem_append_left _ (List.mem_append_left _ (List.mem_append_right _ (List.Mem.tail _ (List.Mem.tail _ (List.Mem.tail _ (List.Mem.tail _ (List.Mem.tail _ (List.Mem.tail _ (List.Mem.tail _ (List.Mem.tail _ (List.Mem.tail _ (List.Mem.tail _ (List.Mem.tail _ (List.Mem.head _))))))))))))))))
  have g__law_line : mg "_law_line" = some (.ref (He.ga K "_law_line")) := He.glo_ok X Gm (Y.t.d.facts (f := .glo "_law_line") (List.mem_append_left _ (List.mem_append_left _ (List.mem_append_right _ (List.Mem.tail _ (List.Mem.tail _ (List.Mem.tail _ (List.Mem.tail _ (List.Mem.tail _ (List.Mem.tail _ (List.Mem.tail _ (List.Mem.tail _ (List.Mem.tail _ (List.Mem.tail _ (List.Mem.tail _ (List.Mem.tail _ (List.Mem.head _)))))))))))))))))
  have g_law : mg "law" = some (.ref (He.ga K "law")) := He.glo_ok X Gm (Y.t.d.facts (f := .glo "law") (List.mem_append_left _ (List.mem_append_left _ (List.mem_append_right _ (List.Mem.tail _ (List.Mem.tail _ (List.Mem.tail _ (List.Mem.tail _ (List.Mem.tail _ (List.Mem.tail _ (List.Mem.tail _ (List.Mem.tail _ (List.Mem.tail _ (List.Mem.tail _ (List.Mem.tail _ (List.Mem.tail _ (List.Mem.tail _ (List.Mem.head _))))))))))))))))))
  have g_InvalidSurface : mg "InvalidSurface" = some (.ref (He.ga K "InvalidSurface")) := He.glo_ok X Gm (Y.t.d.facts (f := .glo "InvalidSurface") (List.mem_append_left _ (List.mem_append_left _ (List.mem_append_right _ (List.Mem.tail _ (List.Mem.tail _ (List.Mem.tail _ (List.Mem.tail _ (List.Mem.tail _ (List.Mem.tail _ (List.Mem.tail _ (List.Mem.tail _ (List.Mem.tail _ (List.Mem.tail _ (List.Mem.tail _ (List.Mem.tail _ (List.Mem.tail _ (List.Mem.tail _ (List.Mem.head _)))))))))))))))))))
  have g_InvalidFraction : mg "InvalidFraction" = some (.ref (He.ga K "InvalidFraction")) := He.glo_ok X Gm (Y.t.d.facts (f := .glo "InvalidFraction") (List.mem_append_left _ (List.mem_append_left _ (List.mem_append_right _ (List.Mem.tail _ (List.Mem.tail _ (List.Mem.tail _ (List.Mem.tail _ (List.Mem.tail _ (List.Mem.tail _ (List.Mem.tail _ (List.Mem.tail _ (List.Mem.tail _ (List.Mem.tail _ (List.Mem.tail _ (List.Mem.tail _ (List.Mem.tail _ (List.Mem.tail _ (List.Mem.tail _ (List.Mem.head _))))))))))))))))))))
  have g_NearError : mg "NearError" = some (.ref (He.ga K "NearError")) := He.glo_ok X Gm (Y.t.d.facts (f := .glo "NearError") (List.mem_append_left _ (List.mem_append_left _ (List.mem_append_right _ (List.Mem.tail _ (List.Mem.tail _ (List.Mem.tail _ (List.Mem.tail _ (List.Mem.tail _ (List.Mem.tail _ (List.Mem.tail _ (List.Mem.tail _ (List.Mem.tail _ (List.Mem.tail _ (List.Mem.tail _ (List.Mem.tail _ (List.Mem.tail _ (List.Mem.tail _ (List.Mem.tail _ (List.Mem.tail _ (List.Mem.head _)))))))))))))))))))))
  have g_InvalidCurve : mg "InvalidCurve" = some (.ref (He.ga K "InvalidCurve")) := He.glo_ok X Gm (Y.t.d.facts (f := .glo "InvalidCurve") (List.mem_append_left _ (List.mem_append_left _ (List.mem_append_right _ (List.Mem.tail _ (List.Mem.tail _ (List.Mem.tail _ (List.Mem.tail _ (List.Mem.tail _ (List.Mem.tail _ (List.Mem.tail _ (List.Mem.tail _ (List.Mem.tail _ (List.Mem.tail _ (List.Mem.tail _ (List.Mem.tail _ (List.Mem.tail _ (List.Mem.tail _ (List.Mem.tail _ (List.Mem.tail _ (List.Mem.tail _ (List.Mem.head _))))))))))))))))))))))
  have g_SharePart : mg "SharePart" = some (.ref (He.ga K "SharePart")) := He.glo_ok X Gm (Y.t.d.facts (f := .glo "SharePart") (List.mem_append_left _ (List.mem_append_left _ (List.mem_append_right _ (List.Mem.tail _ (List.Mem.tail _ (List.Mem.tail _ (List.Mem.tail _ (List.Mem.tail _ (List.Mem.tail _ (List.Mem.tail _ (List.Mem.tail _ (List.Mem.tail _ (List.Mem.tail _ (List.Mem.tail _ (List.Mem.tail _ (List.Mem.tail _ (List.Mem.tail _ (List.Mem.tail _ (List.Mem.tail _ (List.Mem.tail _ (List.Mem.tail _ (List.Mem.head _)))))))))))))))))))))))
  have g_InvalidNumber : mg "InvalidNumber" = some (.ref (He.ga K "InvalidNumber")) := He.glo_ok X Gm (Y.t.d.facts (f := .glo "InvalidNumber") (List.mem_append_left _ (List.mem_append_left _ (List.mem_append_right _ (List.Mem.tail _ (List.Mem.tail _ (List.Mem.tail _ (List.Mem.tail _ (List.Mem.tail _ (List.Mem.tail _ (List.Mem.tail _ (List.Mem.tail _ (List.Mem.tail _ (List.Mem.tail _ (List.Mem.tail _ (List.Mem.tail _ (List.Mem.tail _ (List.Mem.tail _ (List.Mem.tail _ (List.Mem.tail _ (List.Mem.tail _ (List.Mem.tail _ (List.Mem.tail _ (List.Mem.head _))))))))))))))))))))))))
  have g_NONE : mg "NONE" = some (.ref (He.ga K "NONE")) := He.glo_ok X Gm (Y.t.d.facts (f := .glo "NONE") (List.mem_append_left _ (List.mem_append_left _ (List.mem_append_right _ (List.Mem.tail _ (List.Mem.tail _ (List.Mem.tail _ (List.Mem.tail _ (List.Mem.tail _ (List.Mem.tail _ (List.Mem.tail _ (List.Mem.tail _ (List.Mem.tail _ (List.Mem.tail _ (List.Mem.tail _ (List.Mem.tail _ (List.Mem.tail _ (List.Mem.tail _ (List.Mem.tail _ (List.Mem.tail _ (List.Mem.tail _ (List.Mem.tail _ (List.Mem.tail _ (List.Mem.tail _ (List.Mem.head _)))))))))))))))))))))))))
  have b_list : mg "list" = none := He.free_ok X Gm (Y.t.d.facts (f := .free "list") (List.mem_append_left _ (List.mem_append_left _ (List.mem_append_right _ (List.Mem.tail _ (List.Mem.tail _ (List.Mem.tail _ (List.Mem.tail _ (List.Mem.tail _ (List.Mem.tail _ (List.Mem.tail _ (List.Mem.tail _ (List.Mem.tail _ (List.Mem.tail _ (List.Mem.tail _ (List.Mem.tail _ (List.Mem.tail _ (List.Mem.tail _ (List.Mem.tail _ (List.Mem.tail _ (List.Mem.tail _ (List.Mem.tail _ (List.Mem.tail _ (List.Mem.tail _ (List.Mem.tail _ (List.Mem.head _))))))))))))))))))))))))))
  have b_abs : mg "abs" = none := He.free_ok X Gm (Y.t.d.facts (f := .free "abs") (List.mem_append_left _ (List.mem_append_left _ (List.mem_append_right _ (List.Mem.tail _ (List.Mem.tail _ (List.Mem.tail _ (List.Mem.tail _ (List.Mem.tail _ (List.Mem.tail _ (List.Mem.tail _ (List.Mem.tail _ (List.Mem.tail _ (List.Mem.tail _ (List.Mem.tail _ (List.Mem.tail _ (List.Mem.tail _ (List.Mem.tail _ (List.Mem.tail _ (List.Mem.tail _ (List.Mem.tail _ (List.Mem.tail _ (List.Mem.tail _ (List.Mem.tail _ (List.Mem.tail _ (List.Mem.tail _ (List.Mem.head _)))))))))))))))))))))))))))
  have b_int : mg "int" = none := He.free_ok X Gm (Y.t.d.facts (f := .free "int") (List.mem_append_left _ (List.mem_append_left _ (List.mem_append_right _ (List.Mem.tail _ (List.Mem.tail _ (List.Mem.tail _ (List.Mem.tail _ (List.Mem.tail _ (List.Mem.tail _ (List.Mem.tail _ (List.Mem.tail _ (List.Mem.tail _ (List.Mem.tail _ (List.Mem.tail _ (List.Mem.tail _ (List.Mem.tail _ (List.Mem.tail _ (List.Mem.tail _ (List.Mem.tail _ (List.Mem.tail _ (List.Mem.tail _ (List.Mem.tail _ (List.Mem.tail _ (List.Mem.tail _ (List.Mem.tail _ (List.Mem.tail _ (List.Mem.head _))))))))))))))))))))))))))))
  have b_zip : mg "zip" = none := He.free_ok X Gm (Y.t.d.facts (f := .free "zip") (List.mem_append_left _ (List.mem_append_left _ (List.mem_append_right _ (List.Mem.tail _ (List.Mem.tail _ (List.Mem.tail _ (List.Mem.tail _ (List.Mem.tail _ (List.Mem.tail _ (List.Mem.tail _ (List.Mem.tail _ (List.Mem.tail _ (List.Mem.tail _ (List.Mem.tail _ (List.Mem.tail _ (List.Mem.tail _ (List.Mem.tail _ (List.Mem.tail _ (List.Mem.tail _ (List.Mem.tail _ (List.Mem.tail _ (List.Mem.tail _ (List.Mem.tail _ (List.Mem.tail _ (List.Mem.tail _ (List.Mem.tail _ (List.Mem.tail _ (List.Mem.head _)))))))))))))))))))))))))))))
  have b_all : mg "all" = none := He.free_ok X Gm (Y.t.d.facts (f := .free "all") (List.mem_append_left _ (List.mem_append_left _ (List.mem_append_right _ (List.Mem.tail _ (List.Mem.tail _ (List.Mem.tail _ (List.Mem.tail _ (List.Mem.tail _ (List.Mem.tail _ (List.Mem.tail _ (List.Mem.tail _ (List.Mem.tail _ (List.Mem.tail _ (List.Mem.tail _ (List.Mem.tail _ (List.Mem.tail _ (List.Mem.tail _ (List.Mem.tail _ (List.Mem.tail _ (List.Mem.tail _ (List.Mem.tail _ (List.Mem.tail _ (List.Mem.tail _ (List.Mem.tail _ (List.Mem.tail _ (List.Mem.tail _ (List.Mem.tail _ (List.Mem.tail _ (List.Mem.head _))))))))))))))))))))))))))))))
  have b_tuple : mg "tuple" = none := He.free_ok X Gm (Y.t.d.facts (f := .free "tuple") (List.mem_append_left _ (List.mem_append_left _ (List.mem_append_right _ (List.Mem.tail _ (List.Mem.tail _ (List.Mem.tail _ (List.Mem.tail _ (List.Mem.tail _ (List.Mem.tail _ (List.Mem.tail _ (List.Mem.tail _ (List.Mem.tail _ (List.Mem.tail _ (List.Mem.tail _ (List.Mem.tail _ (List.Mem.tail _ (List.Mem.tail _ (List.Mem.tail _ (List.Mem.tail _ (List.Mem.tail _ (List.Mem.tail _ (List.Mem.tail _ (List.Mem.tail _ (List.Mem.tail _ (List.Mem.tail _ (List.Mem.tail _ (List.Mem.tail _ (List.Mem.tail _ (List.Mem.tail _ (List.Mem.head _)))))))))))))))))))))))))))))))
  have b_isinstance : mg "isinstance" = none := He.free_ok X Gm (Y.t.d.facts (f := .free "isinstance") (List.mem_append_left _ (List.mem_append_left _ (List.mem_append_right _ (List.Mem.tail _ (List.Mem.tail _ (List.Mem.tail _ (List.Mem.tail _ (List.Mem.tail _ (List.Mem.tail _ (List.Mem.tail _ (List.Mem.tail _ (List.Mem.tail _ (List.Mem.tail _ (List.Mem.tail _ (List.Mem.tail _ (List.Mem.tail _ (List.Mem.tail _ (List.Mem.tail _ (List.Mem.tail _ (List.Mem.tail _ (List.Mem.tail _ (List.Mem.tail _ (List.Mem.tail _ (List.Mem.tail _ (List.Mem.tail _ (List.Mem.tail _ (List.Mem.tail _ (List.Mem.tail _ (List.Mem.tail _ (List.Mem.tail _ (List.Mem.head _))))))))))))))))))))))))))))))))
  have b_len : mg "len" = none := He.free_ok X Gm (Y.t.d.facts (f := .free "len") (List.mem_append_left _ (List.mem_append_left _ (List.mem_append_right _ (List.Mem.tail _ (List.Mem.tail _ (List.Mem.tail _ (List.Mem.tail _ (List.Mem.tail _ (List.Mem.tail _ (List.Mem.tail _ (List.Mem.tail _ (List.Mem.tail _ (List.Mem.tail _ (List.Mem.tail _ (List.Mem.tail _ (List.Mem.tail _ (List.Mem.tail _ (List.Mem.tail _ (List.Mem.tail _ (List.Mem.tail _ (List.Mem.tail _ (List.Mem.tail _ (List.Mem.tail _ (List.Mem.tail _ (List.Mem.tail _ (List.Mem.tail _ (List.Mem.tail _ (List.Mem.tail _ (List.Mem.tail _ (List.Mem.tail _ (List.Mem.tail _ (List.Mem.head _)))))))))))))))))))))))))))))))))
  have b_bool : mg "bool" = none := He.free_ok X Gm (Y.t.d.facts (f := .free "bool") (List.mem_append_left _ (List.mem_append_left _ (List.mem_append_right _ (List.Mem.tail _ (List.Mem.tail _ (List.Mem.tail _ (List.Mem.tail _ (List.Mem.tail _ (List.Mem.tail _ (List.Mem.tail _ (List.Mem.tail _ (List.Mem.tail _ (List.Mem.tail _ (List.Mem.tail _ (List.Mem.tail _ (List.Mem.tail _ (List.Mem.tail _ (List.Mem.tail _ (List.Mem.tail _ (List.Mem.tail _ (List.Mem.tail _ (List.Mem.tail _ (List.Mem.tail _ (List.Mem.tail _ (List.Mem.tail _ (List.Mem.tail _ (List.Mem.tail _ (List.Mem.tail _ (List.Mem.tail _ (List.Mem.tail _ (List.Mem.tail _ (List.Mem.tail _ (List.Mem.head _))))))))))))))))))))))))))))))))))
  have b_sorted : mg "sorted" = none := He.free_ok X Gm (Y.t.d.facts (f := .free "sorted") (List.mem_append_left _ (List.mem_append_right _ (List.Mem.head _))))
  have b_range : mg "range" = none := He.free_ok X Gm (Y.t.d.facts (f := .free "range") (List.mem_append_left _ (List.mem_append_right _ (List.Mem.tail _ (List.Mem.head _)))))
  have b_max : mg "max" = none := He.free_ok X Gm (Y.t.d.facts (f := .free "max") (List.mem_append_left _ (List.mem_append_right _ (List.Mem.tail _ (List.Mem.tail _ (List.Mem.head _))))))
  have n_POWER : ∃ t, mg "POWER" = some (.int 4 t) := He.int_ok X Gm (Y.t.d.facts (f := .int "POWER" 4) (List.mem_append_left _ (List.mem_append_right _ (List.Mem.tail _ (List.Mem.tail _ (List.Mem.tail _ (List.Mem.head _)))))))
  have n_COEFFICIENT_lines : ∃ t, mg "COEFFICIENT_lines" = some (.int 1000000 t) := He.int_ok X Gm (Y.t.d.facts (f := .int "COEFFICIENT_lines" 1000000) (List.mem_append_left _ (List.mem_append_right _ (List.Mem.tail _ (List.Mem.tail _ (List.Mem.tail _ (List.Mem.tail _ (List.Mem.head _))))))))
  have n_TERMS : ∃ t, mg "TERMS" = some (.int 15 t) := He.int_ok X Gm (Y.t.d.facts (f := .int "TERMS" 15) (List.mem_append_left _ (List.mem_append_right _ (List.Mem.tail _ (List.Mem.tail _ (List.Mem.tail _ (List.Mem.tail _ (List.Mem.tail _ (List.Mem.head _)))))))))
  have n_GREATEST : ∃ t, mg "GREATEST" = some (.int 1000000000000 t) := He.int_ok X Gm (Y.t.d.facts (f := .int "GREATEST" 1000000000000) (List.mem_append_left _ (List.mem_append_right _ (List.Mem.tail _ (List.Mem.tail _ (List.Mem.tail _ (List.Mem.tail _ (List.Mem.tail _ (List.Mem.tail _ (List.Mem.head _))))))))))
  have n_DEGREE : ∃ t, mg "DEGREE" = some (.int 3 t) := He.int_ok X Gm (Y.t.d.facts (f := .int "DEGREE" 3) (List.mem_append_left _ (List.mem_append_right _ (List.Mem.tail _ (List.Mem.tail _ (List.Mem.tail _ (List.Mem.tail _ (List.Mem.tail _ (List.Mem.tail _ (List.Mem.tail _ (List.Mem.head _)))))))))))
  have n_COEFFICIENT_planevalues : ∃ t, mg "COEFFICIENT_planevalues" = some (.int 1000 t) := He.int_ok X Gm (Y.t.d.facts (f := .int "COEFFICIENT_planevalues" 1000) (List.mem_append_left _ (List.mem_append_right _ (List.Mem.tail _ (List.Mem.tail _ (List.Mem.tail _ (List.Mem.tail _ (List.Mem.tail _ (List.Mem.tail _ (List.Mem.tail _ (List.Mem.tail _ (List.Mem.head _))))))))))))
  have x_InvalidSurface : ExcK ⟨K, mg, tabsOf tf K⟩ "InvalidSurface" := ⟨_, g_InvalidSurface, (He.exc_ok (Y.t.d.facts (f := .exc "InvalidSurface") (List.mem_append_left _ (List.mem_append_right _ (List.Mem.tail _ (List.Mem.tail _ (List.Mem.tail _ (List.Mem.tail _ (List.Mem.tail _ (List.Mem.tail _ (List.Mem.tail _ (List.Mem.tail _ (List.Mem.tail _ (List.Mem.head _)))))))))))))).1, (He.exc_ok (Y.t.d.facts (f := .exc "InvalidSurface") (List.mem_append_left _ (List.mem_append_right _ (List.Mem.tail _ (List.Mem.tail _ (List.Mem.tail _ (List.Mem.tail _ (List.Mem.tail _ (List.Mem.tail _ (List.Mem.tail _ (List.Mem.tail _ (List.Mem.tail _ (List.Mem.head _)))))))))))))).2.1, (He.exc_ok (Y.t.d.facts (f := .exc "InvalidSurface") (List.mem_append_left _ (List.mem_append_right _ (List.Mem.tail _ (List.Mem.tail _ (List.Mem.tail _ (List.Mem.tail _ (List.Mem.tail _ (List.Mem.tail _ (List.Mem.tail _ (List.Mem.tail _ (List.Mem.tail _ (List.Mem.head _)))))))))))))).2.2.1, (He.exc_ok (Y.t.d.facts (f := .exc "InvalidSurface") (List.mem_append_left _ (List.mem_append_right _ (List.Mem.tail _ (List.Mem.tail _ (List.Mem.tail _ (List.Mem.tail _ (List.Mem.tail _ (List.Mem.tail _ (List.Mem.tail _ (List.Mem.tail _ (List.Mem.tail _ (List.Mem.head _)))))))))))))).2.2.2⟩
  have x_InvalidFraction : ExcK ⟨K, mg, tabsOf tf K⟩ "InvalidFraction" := ⟨_, g_InvalidFraction, (He.exc_ok (Y.t.d.facts (f := .exc "InvalidFraction") (List.mem_append_left _ (List.mem_append_right _ (List.Mem.tail _ (List.Mem.tail _ (List.Mem.tail _ (List.Mem.tail _ (List.Mem.tail _ (List.Mem.tail _ (List.Mem.tail _ (List.Mem.tail _ (List.Mem.tail _ (List.Mem.tail _ (List.Mem.head _))))))))))))))).1, (He.exc_ok (Y.t.d.facts (f := .exc "InvalidFraction") (List.mem_append_left _ (List.mem_append_right _ (List.Mem.tail _ (List.Mem.tail _ (List.Mem.tail _ (List.Mem.tail _ (List.Mem.tail _ (List.Mem.tail _ (List.Mem.tail _ (List.Mem.tail _ (List.Mem.tail _ (List.Mem.tail _ (List.Mem.head _))))))))))))))).2.1, (He.exc_ok (Y.t.d.facts (f := .exc "InvalidFraction") (List.mem_append_left _ (List.mem_append_right _ (List.Mem.tail _ (List.Mem.tail _ (List.Mem.tail _ (List.Mem.tail _ (List.Mem.tail _ (List.Mem.tail _ (List.Mem.tail _ (List.Mem.tail _ (List.Mem.tail _ (List.Mem.tail _ (List.Mem.head _))))))))))))))).2.2.1, (He.exc_ok (Y.t.d.facts (f := .exc "InvalidFraction") (List.mem_append_left _ (List.mem_append_right _ (List.Mem.tail _ (List.Mem.tail _ (List.Mem.tail _ (List.Mem.tail _ (List.Mem.tail _ (List.Mem.tail _ (List.Mem.tail _ (List.Mem.tail _ (List.Mem.tail _ (List.Mem.tail _ (List.Mem.head _))))))))))))))).2.2.2⟩
  have exx := Y.more
  unfold ex at exx
  simp only [Bool.and_eq_true] at exx
  have f_gcd : mg "gcd" = some (.builtin "math.gcd") := PySem.W.mg_of X Gm (He.eqO_ok exx.2.1)
  have t_NONE : TupK ⟨K, mg, tabsOf tf K⟩ "NONE" [.int 0, .int 1] := ⟨_, [.int 0, .int 1], g_NONE, fun H => He.tupB_ok (vs := [.int 0, .int 1]) exx.2.2 H, ⟨rfl, ⟨rfl, True.intro⟩⟩⟩
  obtain ⟨fd__law_cup, D__law_cup⟩ := defs_fun (st := st_law_cup) Y.t.d (x := "_law_cup") (List.Mem.head _)
  obtain ⟨fd_is_ascending, D_is_ascending⟩ := defs_fun (st := stis_ascending) Y.t.d (x := "is_ascending") (List.Mem.tail _ (List.Mem.head _))
  obtain ⟨fd_is_tuple_of, D_is_tuple_of⟩ := defs_fun (st := stis_tuple_of) Y.t.d (x := "is_tuple_of") (List.Mem.tail _ (List.Mem.tail _ (List.Mem.head _)))
  obtain ⟨fd_is_whole, D_is_whole⟩ := defs_fun (st := stis_whole) Y.t.d (x := "is_whole") (List.Mem.tail _ (List.Mem.tail _ (List.Mem.tail _ (List.Mem.head _))))
  obtain ⟨fd_fits_term, D_fits_term⟩ := defs_fun (st := stfits_term) Y.t.d (x := "fits_term") (List.Mem.tail _ (List.Mem.tail _ (List.Mem.tail _ (List.Mem.tail _ (List.Mem.head _)))))
  obtain ⟨fd_fits_surface, D_fits_surface⟩ := defs_fun (st := stfits_surface) Y.t.d (x := "fits_surface") (List.Mem.tail _ (List.Mem.tail _ (List.Mem.tail _ (List.Mem.tail _ (List.Mem.tail _ (List.Mem.head _))))))
  obtain ⟨fd_need_surface, D_need_surface⟩ := defs_fun (st := stneed_surface) Y.t.d (x := "need_surface") (List.Mem.tail _ (List.Mem.tail _ (List.Mem.tail _ (List.Mem.tail _ (List.Mem.tail _ (List.Mem.tail _ (List.Mem.head _)))))))
  obtain ⟨fd_turned_in, D_turned_in⟩ := defs_fun (st := stturned_in) Y.t.d (x := "turned_in") (List.Mem.tail _ (List.Mem.tail _ (List.Mem.tail _ (List.Mem.tail _ (List.Mem.tail _ (List.Mem.tail _ (List.Mem.tail _ (List.Mem.head _))))))))
  obtain ⟨fd_turned, D_turned⟩ := defs_fun (st := stturned) Y.t.d (x := "turned") (List.Mem.tail _ (List.Mem.tail _ (List.Mem.tail _ (List.Mem.tail _ (List.Mem.tail _ (List.Mem.tail _ (List.Mem.tail _ (List.Mem.tail _ (List.Mem.head _)))))))))
  obtain ⟨fd_is_integer, D_is_integer⟩ := defs_fun (st := stis_integer) Y.t.d (x := "is_integer") (List.Mem.tail _ (List.Mem.tail _ (List.Mem.tail _ (List.Mem.tail _ (List.Mem.tail _ (List.Mem.tail _ (List.Mem.tail _ (List.Mem.tail _ (List.Mem.tail _ (List.Mem.head _))))))))))
  obtain ⟨fd_fits_any, D_fits_any⟩ := defs_fun (st := stfits_any) Y.t.d (x := "fits_any") (List.Mem.tail _ (List.Mem.tail _ (List.Mem.tail _ (List.Mem.tail _ (List.Mem.tail _ (List.Mem.tail _ (List.Mem.tail _ (List.Mem.tail _ (List.Mem.tail _ (List.Mem.tail _ (List.Mem.head _)))))))))))
  obtain ⟨fd_fits_fraction, D_fits_fraction⟩ := defs_fun (st := stfits_fraction) Y.t.d (x := "fits_fraction") (List.Mem.tail _ (List.Mem.tail _ (List.Mem.tail _ (List.Mem.tail _ (List.Mem.tail _ (List.Mem.tail _ (List.Mem.tail _ (List.Mem.tail _ (List.Mem.tail _ (List.Mem.tail _ (List.Mem.tail _ (List.Mem.head _))))))))))))
  obtain ⟨fd_need_fraction, D_need_fraction⟩ := defs_fun (st := stneed_fraction) Y.t.d (x := "need_fraction") (List.Mem.tail _ (List.Mem.tail _ (List.Mem.tail _ (List.Mem.tail _ (List.Mem.tail _ (List.Mem.tail _ (List.Mem.tail _ (List.Mem.tail _ (List.Mem.tail _ (List.Mem.tail _ (List.Mem.tail _ (List.Mem.tail _ (List.Mem.head _)))))))))))))
  obtain ⟨fd_made, D_made⟩ := defs_fun (st := stmade) Y.t.d (x := "made") (List.Mem.tail _ (List.Mem.tail _ (List.Mem.tail _ (List.Mem.tail _ (List.Mem.tail _ (List.Mem.tail _ (List.Mem.tail _ (List.Mem.tail _ (List.Mem.tail _ (List.Mem.tail _ (List.Mem.tail _ (List.Mem.tail _ (List.Mem.tail _ (List.Mem.head _))))))))))))))
  obtain ⟨fd_plus, D_plus⟩ := defs_fun (st := stplus) Y.t.d (x := "plus") (List.Mem.tail _ (List.Mem.tail _ (List.Mem.tail _ (List.Mem.tail _ (List.Mem.tail _ (List.Mem.tail _ (List.Mem.tail _ (List.Mem.tail _ (List.Mem.tail _ (List.Mem.tail _ (List.Mem.tail _ (List.Mem.tail _ (List.Mem.tail _ (List.Mem.tail _ (List.Mem.head _)))))))))))))))
  obtain ⟨fd_times, D_times⟩ := defs_fun (st := sttimes) Y.t.d (x := "times") (List.Mem.tail _ (List.Mem.tail _ (List.Mem.tail _ (List.Mem.tail _ (List.Mem.tail _ (List.Mem.tail _ (List.Mem.tail _ (List.Mem.tail _ (List.Mem.tail _ (List.Mem.tail _ (List.Mem.tail _ (List.Mem.tail _ (List.Mem.tail _ (List.Mem.tail _ (List.Mem.tail _ (List.Mem.head _))))))))))))))))
  obtain ⟨fd_power, D_power⟩ := defs_fun (st := stpower) Y.t.d (x := "power") (List.Mem.tail _ (List.Mem.tail _ (List.Mem.tail _ (List.Mem.tail _ (List.Mem.tail _ (List.Mem.tail _ (List.Mem.tail _ (List.Mem.tail _ (List.Mem.tail _ (List.Mem.tail _ (List.Mem.tail _ (List.Mem.tail _ (List.Mem.tail _ (List.Mem.tail _ (List.Mem.tail _ (List.Mem.tail _ (List.Mem.head _)))))))))))))))))
  obtain ⟨fd_raised, D_raised⟩ := defs_fun (st := straised) Y.t.d (x := "raised") (List.Mem.tail _ (List.Mem.tail _ (List.Mem.tail _ (List.Mem.tail _ (List.Mem.tail _ (List.Mem.tail _ (List.Mem.tail _ (List.Mem.tail _ (List.Mem.tail _ (List.Mem.tail _ (List.Mem.tail _ (List.Mem.tail _ (List.Mem.tail _ (List.Mem.tail _ (List.Mem.tail _ (List.Mem.tail _ (List.Mem.tail _ (List.Mem.head _))))))))))))))))))
  obtain ⟨fd_value_in, D_value_in⟩ := defs_fun (st := stvalue_in) Y.t.d (x := "value_in") (List.Mem.tail _ (List.Mem.tail _ (List.Mem.tail _ (List.Mem.tail _ (List.Mem.tail _ (List.Mem.tail _ (List.Mem.tail _ (List.Mem.tail _ (List.Mem.tail _ (List.Mem.tail _ (List.Mem.tail _ (List.Mem.tail _ (List.Mem.tail _ (List.Mem.tail _ (List.Mem.tail _ (List.Mem.tail _ (List.Mem.tail _ (List.Mem.tail _ (List.Mem.head _)))))))))))))))))))
  obtain ⟨fd_value_at, D_value_at⟩ := defs_fun (st := stvalue_at) Y.t.d (x := "value_at") (List.Mem.tail _ (List.Mem.tail _ (List.Mem.tail _ (List.Mem.tail _ (List.Mem.tail _ (List.Mem.tail _ (List.Mem.tail _ (List.Mem.tail _ (List.Mem.tail _ (List.Mem.tail _ (List.Mem.tail _ (List.Mem.tail _ (List.Mem.tail _ (List.Mem.tail _ (List.Mem.tail _ (List.Mem.tail _ (List.Mem.tail _ (List.Mem.tail _ (List.Mem.tail _ (List.Mem.head _))))))))))))))))))))
  obtain ⟨fd_trimmed, D_trimmed⟩ := defs_fun (st := sttrimmed) Y.t.d (x := "trimmed") (List.Mem.tail _ (List.Mem.tail _ (List.Mem.tail _ (List.Mem.tail _ (List.Mem.tail _ (List.Mem.tail _ (List.Mem.tail _ (List.Mem.tail _ (List.Mem.tail _ (List.Mem.tail _ (List.Mem.tail _ (List.Mem.tail _ (List.Mem.tail _ (List.Mem.tail _ (List.Mem.tail _ (List.Mem.tail _ (List.Mem.tail _ (List.Mem.tail _ (List.Mem.tail _ (List.Mem.tail _ (List.Mem.head _)))))))))))))))))))))
  obtain ⟨fd_content, D_content⟩ := defs_fun (st := stcontent) Y.t.d (x := "content") (List.Mem.tail _ (List.Mem.tail _ (List.Mem.tail _ (List.Mem.tail _ (List.Mem.tail _ (List.Mem.tail _ (List.Mem.tail _ (List.Mem.tail _ (List.Mem.tail _ (List.Mem.tail _ (List.Mem.tail _ (List.Mem.tail _ (List.Mem.tail _ (List.Mem.tail _ (List.Mem.tail _ (List.Mem.tail _ (List.Mem.tail _ (List.Mem.tail _ (List.Mem.tail _ (List.Mem.tail _ (List.Mem.tail _ (List.Mem.head _))))))))))))))))))))))
  obtain ⟨fd_lessened, D_lessened⟩ := defs_fun (st := stlessened) Y.t.d (x := "lessened") (List.Mem.tail _ (List.Mem.tail _ (List.Mem.tail _ (List.Mem.tail _ (List.Mem.tail _ (List.Mem.tail _ (List.Mem.tail _ (List.Mem.tail _ (List.Mem.tail _ (List.Mem.tail _ (List.Mem.tail _ (List.Mem.tail _ (List.Mem.tail _ (List.Mem.tail _ (List.Mem.tail _ (List.Mem.tail _ (List.Mem.tail _ (List.Mem.tail _ (List.Mem.tail _ (List.Mem.tail _ (List.Mem.tail _ (List.Mem.tail _ (List.Mem.head _)))))))))))))))))))))))
  obtain ⟨fd_primitive, D_primitive⟩ := defs_fun (st := stprimitive) Y.t.d (x := "primitive") (List.Mem.tail _ (List.Mem.tail _ (List.Mem.tail _ (List.Mem.tail _ (List.Mem.tail _ (List.Mem.tail _ (List.Mem.tail _ (List.Mem.tail _ (List.Mem.tail _ (List.Mem.tail _ (List.Mem.tail _ (List.Mem.tail _ (List.Mem.tail _ (List.Mem.tail _ (List.Mem.tail _ (List.Mem.tail _ (List.Mem.tail _ (List.Mem.tail _ (List.Mem.tail _ (List.Mem.tail _ (List.Mem.tail _ (List.Mem.tail _ (List.Mem.tail _ (List.Mem.head _))))))))))))))))))))))))
  obtain ⟨fd_high_y, D_high_y⟩ := defs_fun (st := sthigh_y) Y.t.d (x := "high_y") (List.Mem.tail _ (List.Mem.tail _ (List.Mem.tail _ (List.Mem.tail _ (List.Mem.tail _ (List.Mem.tail _ (List.Mem.tail _ (List.Mem.tail _ (List.Mem.tail _ (List.Mem.tail _ (List.Mem.tail _ (List.Mem.tail _ (List.Mem.tail _ (List.Mem.tail _ (List.Mem.tail _ (List.Mem.tail _ (List.Mem.tail _ (List.Mem.tail _ (List.Mem.tail _ (List.Mem.tail _ (List.Mem.tail _ (List.Mem.tail _ (List.Mem.tail _ (List.Mem.tail _ (List.Mem.head _)))))))))))))))))))))))))
  obtain ⟨fd_line_by, D_line_by⟩ := defs_fun (st := stline_by) Y.t.d (x := "line_by") (List.Mem.tail _ (List.Mem.tail _ (List.Mem.tail _ (List.Mem.tail _ (List.Mem.tail _ (List.Mem.tail _ (List.Mem.tail _ (List.Mem.tail _ (List.Mem.tail _ (List.Mem.tail _ (List.Mem.tail _ (List.Mem.tail _ (List.Mem.tail _ (List.Mem.tail _ (List.Mem.tail _ (List.Mem.tail _ (List.Mem.tail _ (List.Mem.tail _ (List.Mem.tail _ (List.Mem.tail _ (List.Mem.tail _ (List.Mem.tail _ (List.Mem.tail _ (List.Mem.tail _ (List.Mem.tail _ (List.Mem.head _))))))))))))))))))))))))))
  obtain ⟨fd_line_on, D_line_on⟩ := defs_fun (st := stline_on) Y.t.d (x := "line_on") (List.Mem.tail _ (List.Mem.tail _ (List.Mem.tail _ (List.Mem.tail _ (List.Mem.tail _ (List.Mem.tail _ (List.Mem.tail _ (List.Mem.tail _ (List.Mem.tail _ (List.Mem.tail _ (List.Mem.tail _ (List.Mem.tail _ (List.Mem.tail _ (List.Mem.tail _ (List.Mem.tail _ (List.Mem.tail _ (List.Mem.tail _ (List.Mem.tail _ (List.Mem.tail _ (List.Mem.tail _ (List.Mem.tail _ (List.Mem.tail _ (List.Mem.tail _ (List.Mem.tail _ (List.Mem.tail _ (List.Mem.tail _ (List.Mem.head _)))))))))))))))))))))))))))
  obtain ⟨fd_degree_in, D_degree_in⟩ := defs_fun (st := stdegree_in) Y.t.d (x := "degree_in") (List.Mem.tail _ (List.Mem.tail _ (List.Mem.tail _ (List.Mem.tail _ (List.Mem.tail _ (List.Mem.tail _ (List.Mem.tail _ (List.Mem.tail _ (List.Mem.tail _ (List.Mem.tail _ (List.Mem.tail _ (List.Mem.tail _ (List.Mem.tail _ (List.Mem.tail _ (List.Mem.tail _ (List.Mem.tail _ (List.Mem.tail _ (List.Mem.tail _ (List.Mem.tail _ (List.Mem.tail _ (List.Mem.tail _ (List.Mem.tail _ (List.Mem.tail _ (List.Mem.tail _ (List.Mem.tail _ (List.Mem.tail _ (List.Mem.tail _ (List.Mem.head _))))))))))))))))))))))))))))
  obtain ⟨fd_fits_curve, D_fits_curve⟩ := defs_fun (st := stfits_curve) Y.t.d (x := "fits_curve") (List.Mem.tail _ (List.Mem.tail _ (List.Mem.tail _ (List.Mem.tail _ (List.Mem.tail _ (List.Mem.tail _ (List.Mem.tail _ (List.Mem.tail _ (List.Mem.tail _ (List.Mem.tail _ (List.Mem.tail _ (List.Mem.tail _ (List.Mem.tail _ (List.Mem.tail _ (List.Mem.tail _ (List.Mem.tail _ (List.Mem.tail _ (List.Mem.tail _ (List.Mem.tail _ (List.Mem.tail _ (List.Mem.tail _ (List.Mem.tail _ (List.Mem.tail _ (List.Mem.tail _ (List.Mem.tail _ (List.Mem.tail _ (List.Mem.tail _ (List.Mem.tail _ (List.Mem.head _)))))))))))))))))))))))))))))
  obtain ⟨fd_is_curve, D_is_curve⟩ := defs_fun (st := stis_curve) Y.t.d (x := "is_curve") (List.Mem.tail _ (List.Mem.tail _ (List.Mem.tail _ (List.Mem.tail _ (List.Mem.tail _ (List.Mem.tail _ (List.Mem.tail _ (List.Mem.tail _ (List.Mem.tail _ (List.Mem.tail _ (List.Mem.tail _ (List.Mem.tail _ (List.Mem.tail _ (List.Mem.tail _ (List.Mem.tail _ (List.Mem.tail _ (List.Mem.tail _ (List.Mem.tail _ (List.Mem.tail _ (List.Mem.tail _ (List.Mem.tail _ (List.Mem.tail _ (List.Mem.tail _ (List.Mem.tail _ (List.Mem.tail _ (List.Mem.tail _ (List.Mem.tail _ (List.Mem.tail _ (List.Mem.tail _ (List.Mem.head _))))))))))))))))))))))))))))))
  obtain ⟨fd__law_error, D__law_error⟩ := defs_fun (st := st_law_error) Y.t.d (x := "_law_error") (List.Mem.tail _ (List.Mem.tail _ (List.Mem.tail _ (List.Mem.tail _ (List.Mem.tail _ (List.Mem.tail _ (List.Mem.tail _ (List.Mem.tail _ (List.Mem.tail _ (List.Mem.tail _ (List.Mem.tail _ (List.Mem.tail _ (List.Mem.tail _ (List.Mem.tail _ (List.Mem.tail _ (List.Mem.tail _ (List.Mem.tail _ (List.Mem.tail _ (List.Mem.tail _ (List.Mem.tail _ (List.Mem.tail _ (List.Mem.tail _ (List.Mem.tail _ (List.Mem.tail _ (List.Mem.tail _ (List.Mem.tail _ (List.Mem.tail _ (List.Mem.tail _ (List.Mem.tail _ (List.Mem.tail _ (List.Mem.head _)))))))))))))))))))))))))))))))
  obtain ⟨fd__law_roll, D__law_roll⟩ := defs_fun (st := st_law_roll) Y.t.d (x := "_law_roll") (List.Mem.tail _ (List.Mem.tail _ (List.Mem.tail _ (List.Mem.tail _ (List.Mem.tail _ (List.Mem.tail _ (List.Mem.tail _ (List.Mem.tail _ (List.Mem.tail _ (List.Mem.tail _ (List.Mem.tail _ (List.Mem.tail _ (List.Mem.tail _ (List.Mem.tail _ (List.Mem.tail _ (List.Mem.tail _ (List.Mem.tail _ (List.Mem.tail _ (List.Mem.tail _ (List.Mem.tail _ (List.Mem.tail _ (List.Mem.tail _ (List.Mem.tail _ (List.Mem.tail _ (List.Mem.tail _ (List.Mem.tail _ (List.Mem.tail _ (List.Mem.tail _ (List.Mem.tail _ (List.Mem.tail _ (List.Mem.tail _ (List.Mem.head _))))))))))))))))))))))))))))))))
  obtain ⟨fd__law_some, D__law_some⟩ := defs_fun (st := st_law_some) Y.t.d (x := "_law_some") (List.Mem.tail _ (List.Mem.tail _ (List.Mem.tail _ (List.Mem.tail _ (List.Mem.tail _ (List.Mem.tail _ (List.Mem.tail _ (List.Mem.tail _ (List.Mem.tail _ (List.Mem.tail _ (List.Mem.tail _ (List.Mem.tail _ (List.Mem.tail _ (List.Mem.tail _ (List.Mem.tail _ (List.Mem.tail _ (List.Mem.tail _ (List.Mem.tail _ (List.Mem.tail _ (List.Mem.tail _ (List.Mem.tail _ (List.Mem.tail _ (List.Mem.tail _ (List.Mem.tail _ (List.Mem.tail _ (List.Mem.tail _ (List.Mem.tail _ (List.Mem.tail _ (List.Mem.tail _ (List.Mem.tail _ (List.Mem.tail _ (List.Mem.tail _ (List.Mem.head _)))))))))))))))))))))))))))))))))
  obtain ⟨fd__law_drawn, D__law_drawn⟩ := defs_fun (st := st_law_drawn) Y.t.d (x := "_law_drawn") (List.Mem.tail _ (List.Mem.tail _ (List.Mem.tail _ (List.Mem.tail _ (List.Mem.tail _ (List.Mem.tail _ (List.Mem.tail _ (List.Mem.tail _ (List.Mem.tail _ (List.Mem.tail _ (List.Mem.tail _ (List.Mem.tail _ (List.Mem.tail _ (List.Mem.tail _ (List.Mem.tail _ (List.Mem.tail _ (List.Mem.tail _ (List.Mem.tail _ (List.Mem.tail _ (List.Mem.tail _ (List.Mem.tail _ (List.Mem.tail _ (List.Mem.tail _ (List.Mem.tail _ (List.Mem.tail _ (List.Mem.tail _ (List.Mem.tail _ (List.Mem.tail _ (List.Mem.tail _ (List.Mem.tail _ (List.Mem.tail _ (List.Mem.tail _ (List.Mem.tail _ (List.Mem.head _))))))))))))))))))))))))))))))))))
  obtain ⟨fd__law_common, D__law_common⟩ := defs_fun (st := st_law_common) Y.t.d (x := "_law_common") (List.Mem.tail _ (List.Mem.tail _ (List.Mem.tail _ (List.Mem.tail _ (List.Mem.tail _ (List.Mem.tail _ (List.Mem.tail _ (List.Mem.tail _ (List.Mem.tail _ (List.Mem.tail _ (List.Mem.tail _ (List.Mem.tail _ (List.Mem.tail _ (List.Mem.tail _ (List.Mem.tail _ (List.Mem.tail _ (List.Mem.tail _ (List.Mem.tail _ (List.Mem.tail _ (List.Mem.tail _ (List.Mem.tail _ (List.Mem.tail _ (List.Mem.tail _ (List.Mem.tail _ (List.Mem.tail _ (List.Mem.tail _ (List.Mem.tail _ (List.Mem.tail _ (List.Mem.tail _ (List.Mem.tail _ (List.Mem.tail _ (List.Mem.tail _ (List.Mem.tail _ (List.Mem.tail _ (List.Mem.head _)))))))))))))))))))))))))))))))))))
  obtain ⟨fd__law_made, D__law_made⟩ := defs_fun (st := st_law_made) Y.t.d (x := "_law_made") (List.Mem.tail _ (List.Mem.tail _ (List.Mem.tail _ (List.Mem.tail _ (List.Mem.tail _ (List.Mem.tail _ (List.Mem.tail _ (List.Mem.tail _ (List.Mem.tail _ (List.Mem.tail _ (List.Mem.tail _ (List.Mem.tail _ (List.Mem.tail _ (List.Mem.tail _ (List.Mem.tail _ (List.Mem.tail _ (List.Mem.tail _ (List.Mem.tail _ (List.Mem.tail _ (List.Mem.tail _ (List.Mem.tail _ (List.Mem.tail _ (List.Mem.tail _ (List.Mem.tail _ (List.Mem.tail _ (List.Mem.tail _ (List.Mem.tail _ (List.Mem.tail _ (List.Mem.tail _ (List.Mem.tail _ (List.Mem.tail _ (List.Mem.tail _ (List.Mem.tail _ (List.Mem.tail _ (List.Mem.tail _ (List.Mem.head _))))))))))))))))))))))))))))))))))))
  obtain ⟨fd__law_fraction, D__law_fraction⟩ := defs_fun (st := st_law_fraction) Y.t.d (x := "_law_fraction") (List.Mem.tail _ (List.Mem.tail _ (List.Mem.tail _ (List.Mem.tail _ (List.Mem.tail _ (List.Mem.tail _ (List.Mem.tail _ (List.Mem.tail _ (List.Mem.tail _ (List.Mem.tail _ (List.Mem.tail _ (List.Mem.tail _ (List.Mem.tail _ (List.Mem.tail _ (List.Mem.tail _ (List.Mem.tail _ (List.Mem.tail _ (List.Mem.tail _ (List.Mem.tail _ (List.Mem.tail _ (List.Mem.tail _ (List.Mem.tail _ (List.Mem.tail _ (List.Mem.tail _ (List.Mem.tail _ (List.Mem.tail _ (List.Mem.tail _ (List.Mem.tail _ (List.Mem.tail _ (List.Mem.tail _ (List.Mem.tail _ (List.Mem.tail _ (List.Mem.tail _ (List.Mem.tail _ (List.Mem.tail _ (List.Mem.tail _ (List.Mem.head _)))))))))))))))))))))))))))))))))))))
  obtain ⟨fd__law_alike, D__law_alike⟩ := defs_fun (st := st_law_alike) Y.t.d (x := "_law_alike") (List.Mem.tail _ (List.Mem.tail _ (List.Mem.tail _ (List.Mem.tail _ (List.Mem.tail _ (List.Mem.tail _ (List.Mem.tail _ (List.Mem.tail _ (List.Mem.tail _ (List.Mem.tail _ (List.Mem.tail _ (List.Mem.tail _ (List.Mem.tail _ (List.Mem.tail _ (List.Mem.tail _ (List.Mem.tail _ (List.Mem.tail _ (List.Mem.tail _ (List.Mem.tail _ (List.Mem.tail _ (List.Mem.tail _ (List.Mem.tail _ (List.Mem.tail _ (List.Mem.tail _ (List.Mem.tail _ (List.Mem.tail _ (List.Mem.tail _ (List.Mem.tail _ (List.Mem.tail _ (List.Mem.tail _ (List.Mem.tail _ (List.Mem.tail _ (List.Mem.tail _ (List.Mem.tail _ (List.Mem.tail _ (List.Mem.tail _ (List.Mem.tail _ (List.Mem.head _))))))))))))))))))))))))))))))))))))))
  obtain ⟨fd_total_degree, D_total_degree⟩ := defs_fun (st := sttotal_degree) Y.t.d (x := "total_degree") (List.Mem.tail _ (List.Mem.tail _ (List.Mem.tail _ (List.Mem.tail _ (List.Mem.tail _ (List.Mem.tail _ (List.Mem.tail _ (List.Mem.tail _ (List.Mem.tail _ (List.Mem.tail _ (List.Mem.tail _ (List.Mem.tail _ (List.Mem.tail _ (List.Mem.tail _ (List.Mem.tail _ (List.Mem.tail _ (List.Mem.tail _ (List.Mem.tail _ (List.Mem.tail _ (List.Mem.tail _ (List.Mem.tail _ (List.Mem.tail _ (List.Mem.tail _ (List.Mem.tail _ (List.Mem.tail _ (List.Mem.tail _ (List.Mem.tail _ (List.Mem.tail _ (List.Mem.tail _ (List.Mem.tail _ (List.Mem.tail _ (List.Mem.tail _ (List.Mem.tail _ (List.Mem.tail _ (List.Mem.tail _ (List.Mem.tail _ (List.Mem.tail _ (List.Mem.tail _ (List.Mem.head _)))))))))))))))))))))))))))))))))))))))
  obtain ⟨fd__law_plus, D__law_plus⟩ := defs_fun (st := st_law_plus) Y.t.d (x := "_law_plus") (List.Mem.tail _ (List.Mem.tail _ (List.Mem.tail _ (List.Mem.tail _ (List.Mem.tail _ (List.Mem.tail _ (List.Mem.tail _ (List.Mem.tail _ (List.Mem.tail _ (List.Mem.tail _ (List.Mem.tail _ (List.Mem.tail _ (List.Mem.tail _ (List.Mem.tail _ (List.Mem.tail _ (List.Mem.tail _ (List.Mem.tail _ (List.Mem.tail _ (List.Mem.tail _ (List.Mem.tail _ (List.Mem.tail _ (List.Mem.tail _ (List.Mem.tail _ (List.Mem.tail _ (List.Mem.tail _ (List.Mem.tail _ (List.Mem.tail _ (List.Mem.tail _ (List.Mem.tail _ (List.Mem.tail _ (List.Mem.tail _ (List.Mem.tail _ (List.Mem.tail _ (List.Mem.tail _ (List.Mem.tail _ (List.Mem.tail _ (List.Mem.tail _ (List.Mem.tail _ (List.Mem.tail _ (List.Mem.head _))))))))))))))))))))))))))))))))))))))))
  obtain ⟨fd__law_times, D__law_times⟩ := defs_fun (st := st_law_times) Y.t.d (x := "_law_times") (List.Mem.tail _ (List.Mem.tail _ (List.Mem.tail _ (List.Mem.tail _ (List.Mem.tail _ (List.Mem.tail _ (List.Mem.tail _ (List.Mem.tail _ (List.Mem.tail _ (List.Mem.tail _ (List.Mem.tail _ (List.Mem.tail _ (List.Mem.tail _ (List.Mem.tail _ (List.Mem.tail _ (List.Mem.tail _ (List.Mem.tail _ (List.Mem.tail _ (List.Mem.tail _ (List.Mem.tail _ (List.Mem.tail _ (List.Mem.tail _ (List.Mem.tail _ (List.Mem.tail _ (List.Mem.tail _ (List.Mem.tail _ (List.Mem.tail _ (List.Mem.tail _ (List.Mem.tail _ (List.Mem.tail _ (List.Mem.tail _ (List.Mem.tail _ (List.Mem.tail _ (List.Mem.tail _ (List.Mem.tail _ (List.Mem.tail _ (List.Mem.tail _ (List.Mem.tail _ (List.Mem.tail _ (List.Mem.tail _ (List.Mem.head _)))))))))))))))))))))))))))))))))))))))))
  obtain ⟨fd__law_value_at, D__law_value_at⟩ := defs_fun (st := st_law_value_at) Y.t.d (x := "_law_value_at") (List.Mem.tail _ (List.Mem.tail _ (List.Mem.tail _ (List.Mem.tail _ (List.Mem.tail _ (List.Mem.tail _ (List.Mem.tail _ (List.Mem.tail _ (List.Mem.tail _ (List.Mem.tail _ (List.Mem.tail _ (List.Mem.tail _ (List.Mem.tail _ (List.Mem.tail _ (List.Mem.tail _ (List.Mem.tail _ (List.Mem.tail _ (List.Mem.tail _ (List.Mem.tail _ (List.Mem.tail _ (List.Mem.tail _ (List.Mem.tail _ (List.Mem.tail _ (List.Mem.tail _ (List.Mem.tail _ (List.Mem.tail _ (List.Mem.tail _ (List.Mem.tail _ (List.Mem.tail _ (List.Mem.tail _ (List.Mem.tail _ (List.Mem.tail _ (List.Mem.tail _ (List.Mem.tail _ (List.Mem.tail _ (List.Mem.tail _ (List.Mem.tail _ (List.Mem.tail _ (List.Mem.tail _ (List.Mem.tail _ (List.Mem.tail _ (List.Mem.head _))))))))))))))))))))))))))))))))))))))))))
  obtain ⟨fd__law_line, D__law_line⟩ := defs_fun (st := st_law_line) Y.t.d (x := "_law_line") (List.Mem.tail _ (List.Mem.tail _ (List.Mem.tail _ (List.Mem.tail _ (List.Mem.tail _ (List.Mem.tail _ (List.Mem.tail _ (List.Mem.tail _ (List.Mem.tail _ (List.Mem.tail _ (List.Mem.tail _ (List.Mem.tail _ (List.Mem.tail _ (List.Mem.tail _ (List.Mem.tail _ (List.Mem.tail _ (List.Mem.tail _ (List.Mem.tail _ (List.Mem.tail _ (List.Mem.tail _ (List.Mem.tail _ (List.Mem.tail _ (List.Mem.tail _ (List.Mem.tail _ (List.Mem.tail _ (List.Mem.tail _ (List.Mem.tail _ (List.Mem.tail _ (List.Mem.tail _ (List.Mem.tail _ (List.Mem.tail _ (List.Mem.tail _ (List.Mem.tail _ (List.Mem.tail _ (List.Mem.tail _ (List.Mem.tail _ (List.Mem.tail _ (List.Mem.tail _ (List.Mem.tail _ (List.Mem.tail _ (List.Mem.tail _ (List.Mem.tail _ (List.Mem.head _)))))))))))))))))))))))))))))))))))))))))))
  obtain ⟨fd_law, D_law⟩ := defs_fun (st := stlaw) Y.t.d (x := "law") (List.Mem.tail _ (List.Mem.tail _ (List.Mem.tail _ (List.Mem.tail _ (List.Mem.tail _ (List.Mem.tail _ (List.Mem.tail _ (List.Mem.tail _ (List.Mem.tail _ (List.Mem.tail _ (List.Mem.tail _ (List.Mem.tail _ (List.Mem.tail _ (List.Mem.tail _ (List.Mem.tail _ (List.Mem.tail _ (List.Mem.tail _ (List.Mem.tail _ (List.Mem.tail _ (List.Mem.tail _ (List.Mem.tail _ (List.Mem.tail _ (List.Mem.tail _ (List.Mem.tail _ (List.Mem.tail _ (List.Mem.tail _ (List.Mem.tail _ (List.Mem.tail _ (List.Mem.tail _ (List.Mem.tail _ (List.Mem.tail _ (List.Mem.tail _ (List.Mem.tail _ (List.Mem.tail _ (List.Mem.tail _ (List.Mem.tail _ (List.Mem.tail _ (List.Mem.tail _ (List.Mem.tail _ (List.Mem.tail _ (List.Mem.tail _ (List.Mem.tail _ (List.Mem.tail _ (List.Mem.head _))))))))))))))))))))))))))))))))))))))))))))
  have T_law_error : Teller ⟨K, mg, tabsOf tf K⟩ "_law_error" st_law_error w_law_error hs_law_error := by
    refine ⟨g__law_error, ⟨_, D__law_error⟩, fun x r C hw hC Q H hq => ?_, fun q hq => ?_⟩
    · have hm := PySem.mem_of_lookup hw
      simp only [List.mem_cons, Prod.mk.injEq, List.not_mem_nil, or_false] at hm
      rcases hm with ⟨rfl, rfl⟩ | ⟨rfl, rfl⟩ | ⟨rfl, rfl⟩ | ⟨rfl, rfl⟩ | ⟨rfl, rfl⟩ | ⟨rfl, rfl⟩
      · have e := hC.symm.trans g_NearError; cases e; exact ⟨false, He.exm_ok (Y.t.d.facts (f := .exm "NearError" "InvalidCurve" false) (List.mem_append_left _ (List.mem_append_right _ (List.Mem.tail _ (List.Mem.tail _ (List.Mem.tail _ (List.Mem.tail _ (List.Mem.tail _ (List.Mem.tail _ (List.Mem.tail _ (List.Mem.tail _ (List.Mem.tail _ (List.Mem.tail _ (List.Mem.tail _ (List.Mem.head _))))))))))))))), fun z => Bool.noConfusion z, fun _ => ⟨false, He.exm_ok (Y.t.d.facts (f := .exm "NearError" "SharePart" false) (List.mem_append_left _ (List.mem_append_right _ (List.Mem.tail _ (List.Mem.tail _ (List.Mem.tail _ (List.Mem.tail _ (List.Mem.tail _ (List.Mem.tail _ (List.Mem.tail _ (List.Mem.tail _ (List.Mem.tail _ (List.Mem.tail _ (List.Mem.tail _ (List.Mem.tail _ (List.Mem.head _)))))))))))))))), fun z => Bool.noConfusion z, fun _ => ⟨false, He.exm_ok (Y.t.d.facts (f := .exm "NearError" "InvalidSurface" false) (List.mem_append_left _ (List.mem_append_right _ (List.Mem.tail _ (List.Mem.tail _ (List.Mem.tail _ (List.Mem.tail _ (List.Mem.tail _ (List.Mem.tail _ (List.Mem.tail _ (List.Mem.tail _ (List.Mem.tail _ (List.Mem.tail _ (List.Mem.tail _ (List.Mem.tail _ (List.Mem.tail _ (List.Mem.head _))))))))))))))))), fun z => Bool.noConfusion z, fun _ => ⟨false, He.exm_ok (Y.t.d.facts (f := .exm "NearError" "InvalidFraction" false) (List.mem_append_left _ (List.mem_append_right _ (List.Mem.tail _ (List.Mem.tail _ (List.Mem.tail _ (List.Mem.tail _ (List.Mem.tail _ (List.Mem.tail _ (List.Mem.tail _ (List.Mem.tail _ (List.Mem.tail _ (List.Mem.tail _ (List.Mem.tail _ (List.Mem.tail _ (List.Mem.tail _ (List.Mem.tail _ (List.Mem.head _)))))))))))))))))), fun z => Bool.noConfusion z, fun _ => ⟨false, He.exm_ok (Y.t.d.facts (f := .exm "NearError" "InvalidNumber" false) (List.mem_append_left _ (List.mem_append_right _ (List.Mem.tail _ (List.Mem.tail _ (List.Mem.tail _ (List.Mem.tail _ (List.Mem.tail _ (List.Mem.tail _ (List.Mem.tail _ (List.Mem.tail _ (List.Mem.tail _ (List.Mem.tail _ (List.Mem.tail _ (List.Mem.tail _ (List.Mem.tail _ (List.Mem.tail _ (List.Mem.tail _ (List.Mem.head _))))))))))))))))))), fun z => Bool.noConfusion z, fun _ => ⟨true, He.exm_ok (Y.t.d.facts (f := .exm "NearError" "NearError" true) (List.mem_append_left _ (List.mem_append_right _ (List.Mem.tail _ (List.Mem.tail _ (List.Mem.tail _ (List.Mem.tail _ (List.Mem.tail _ (List.Mem.tail _ (List.Mem.tail _ (List.Mem.tail _ (List.Mem.tail _ (List.Mem.tail _ (List.Mem.tail _ (List.Mem.tail _ (List.Mem.tail _ (List.Mem.tail _ (List.Mem.tail _ (List.Mem.tail _ (List.Mem.head _)))))))))))))))))))), fun _ => hq, fun z => Bool.noConfusion z⟩⟩⟩⟩⟩⟩
      · have e := hC.symm.trans g_InvalidFraction; cases e; exact ⟨false, He.exm_ok (Y.t.d.facts (f := .exm "InvalidFraction" "InvalidCurve" false) (List.mem_append_left _ (List.mem_append_right _ (List.Mem.tail _ (List.Mem.tail _ (List.Mem.tail _ (List.Mem.tail _ (List.Mem.tail _ (List.Mem.tail _ (List.Mem.tail _ (List.Mem.tail _ (List.Mem.tail _ (List.Mem.tail _ (List.Mem.tail _ (List.Mem.tail _ (List.Mem.tail _ (List.Mem.tail _ (List.Mem.tail _ (List.Mem.tail _ (List.Mem.tail _ (List.Mem.head _))))))))))))))))))))), fun z => Bool.noConfusion z, fun _ => ⟨false, He.exm_ok (Y.t.d.facts (f := .exm "InvalidFraction" "SharePart" false) (List.mem_append_left _ (List.mem_append_right _ (List.Mem.tail _ (List.Mem.tail _ (List.Mem.tail _ (List.Mem.tail _ (List.Mem.tail _ (List.Mem.tail _ (List.Mem.tail _ (List.Mem.tail _ (List.Mem.tail _ (List.Mem.tail _ (List.Mem.tail _ (List.Mem.tail _ (List.Mem.tail _ (List.Mem.tail _ (List.Mem.tail _ (List.Mem.tail _ (List.Mem.tail _ (List.Mem.tail _ (List.Mem.head _)))))))))))))))))))))), fun z => Bool.noConfusion z, fun _ => ⟨false, He.exm_ok (Y.t.d.facts (f := .exm "InvalidFraction" "InvalidSurface" false) (List.mem_append_left _ (List.mem_append_right _ (List.Mem.tail _ (List.Mem.tail _ (List.Mem.tail _ (List.Mem.tail _ (List.Mem.tail _ (List.Mem.tail _ (List.Mem.tail _ (List.Mem.tail _ (List.Mem.tail _ (List.Mem.tail _ (List.Mem.tail _ (List.Mem.tail _ (List.Mem.tail _ (List.Mem.tail _ (List.Mem.tail _ (List.Mem.tail _ (List.Mem.tail _ (List.Mem.tail _ (List.Mem.tail _ (List.Mem.head _))))))))))))))))))))))), fun z => Bool.noConfusion z, fun _ => ⟨true, He.exm_ok (Y.t.d.facts (f := .exm "InvalidFraction" "InvalidFraction" true) (List.mem_append_left _ (List.mem_append_right _ (List.Mem.tail _ (List.Mem.tail _ (List.Mem.tail _ (List.Mem.tail _ (List.Mem.tail _ (List.Mem.tail _ (List.Mem.tail _ (List.Mem.tail _ (List.Mem.tail _ (List.Mem.tail _ (List.Mem.tail _ (List.Mem.tail _ (List.Mem.tail _ (List.Mem.tail _ (List.Mem.tail _ (List.Mem.tail _ (List.Mem.tail _ (List.Mem.tail _ (List.Mem.tail _ (List.Mem.tail _ (List.Mem.head _)))))))))))))))))))))))), fun _ => hq, fun z => Bool.noConfusion z⟩⟩⟩⟩
      · have e := hC.symm.trans g_InvalidSurface; cases e; exact ⟨false, He.exm_ok (Y.t.d.facts (f := .exm "InvalidSurface" "InvalidCurve" false) (List.mem_append_left _ (List.mem_append_right _ (List.Mem.tail _ (List.Mem.tail _ (List.Mem.tail _ (List.Mem.tail _ (List.Mem.tail _ (List.Mem.tail _ (List.Mem.tail _ (List.Mem.tail _ (List.Mem.tail _ (List.Mem.tail _ (List.Mem.tail _ (List.Mem.tail _ (List.Mem.tail _ (List.Mem.tail _ (List.Mem.tail _ (List.Mem.tail _ (List.Mem.tail _ (List.Mem.tail _ (List.Mem.tail _ (List.Mem.tail _ (List.Mem.tail _ (List.Mem.head _))))))))))))))))))))))))), fun z => Bool.noConfusion z, fun _ => ⟨false, He.exm_ok (Y.t.d.facts (f := .exm "InvalidSurface" "SharePart" false) (List.mem_append_left _ (List.mem_append_right _ (List.Mem.tail _ (List.Mem.tail _ (List.Mem.tail _ (List.Mem.tail _ (List.Mem.tail _ (List.Mem.tail _ (List.Mem.tail _ (List.Mem.tail _ (List.Mem.tail _ (List.Mem.tail _ (List.Mem.tail _ (List.Mem.tail _ (List.Mem.tail _ (List.Mem.tail _ (List.Mem.tail _ (List.Mem.tail _ (List.Mem.tail _ (List.Mem.tail _ (List.Mem.tail _ (List.Mem.tail _ (List.Mem.tail _ (List.Mem.tail _ (List.Mem.head _)))))))))))))))))))))))))), fun z => Bool.noConfusion z, fun _ => ⟨true, He.exm_ok (Y.t.d.facts (f := .exm "InvalidSurface" "InvalidSurface" true) (List.mem_append_left _ (List.mem_append_right _ (List.Mem.tail _ (List.Mem.tail _ (List.Mem.tail _ (List.Mem.tail _ (List.Mem.tail _ (List.Mem.tail _ (List.Mem.tail _ (List.Mem.tail _ (List.Mem.tail _ (List.Mem.tail _ (List.Mem.tail _ (List.Mem.tail _ (List.Mem.tail _ (List.Mem.tail _ (List.Mem.tail _ (List.Mem.tail _ (List.Mem.tail _ (List.Mem.tail _ (List.Mem.tail _ (List.Mem.tail _ (List.Mem.tail _ (List.Mem.tail _ (List.Mem.tail _ (List.Mem.head _))))))))))))))))))))))))))), fun _ => hq, fun z => Bool.noConfusion z⟩⟩⟩
      · have e := hC.symm.trans g_InvalidNumber; cases e; exact ⟨false, He.exm_ok (Y.t.d.facts (f := .exm "InvalidNumber" "InvalidCurve" false) (List.mem_append_left _ (List.mem_append_right _ (List.Mem.tail _ (List.Mem.tail _ (List.Mem.tail _ (List.Mem.tail _ (List.Mem.tail _ (List.Mem.tail _ (List.Mem.tail _ (List.Mem.tail _ (List.Mem.tail _ (List.Mem.tail _ (List.Mem.tail _ (List.Mem.tail _ (List.Mem.tail _ (List.Mem.tail _ (List.Mem.tail _ (List.Mem.tail _ (List.Mem.tail _ (List.Mem.tail _ (List.Mem.tail _ (List.Mem.tail _ (List.Mem.tail _ (List.Mem.tail _ (List.Mem.tail _ (List.Mem.tail _ (List.Mem.head _)))))))))))))))))))))))))))), fun z => Bool.noConfusion z, fun _ => ⟨false, He.exm_ok (Y.t.d.facts (f := .exm "InvalidNumber" "SharePart" false) (List.mem_append_left _ (List.mem_append_right _ (List.Mem.tail _ (List.Mem.tail _ (List.Mem.tail _ (List.Mem.tail _ (List.Mem.tail _ (List.Mem.tail _ (List.Mem.tail _ (List.Mem.tail _ (List.Mem.tail _ (List.Mem.tail _ (List.Mem.tail _ (List.Mem.tail _ (List.Mem.tail _ (List.Mem.tail _ (List.Mem.tail _ (List.Mem.tail _ (List.Mem.tail _ (List.Mem.tail _ (List.Mem.tail _ (List.Mem.tail _ (List.Mem.tail _ (List.Mem.tail _ (List.Mem.tail _ (List.Mem.tail _ (List.Mem.tail _ (List.Mem.head _))))))))))))))))))))))))))))), fun z => Bool.noConfusion z, fun _ => ⟨false, He.exm_ok (Y.t.d.facts (f := .exm "InvalidNumber" "InvalidSurface" false) (List.mem_append_left _ (List.mem_append_right _ (List.Mem.tail _ (List.Mem.tail _ (List.Mem.tail _ (List.Mem.tail _ (List.Mem.tail _ (List.Mem.tail _ (List.Mem.tail _ (List.Mem.tail _ (List.Mem.tail _ (List.Mem.tail _ (List.Mem.tail _ (List.Mem.tail _ (List.Mem.tail _ (List.Mem.tail _ (List.Mem.tail _ (List.Mem.tail _ (List.Mem.tail _ (List.Mem.tail _ (List.Mem.tail _ (List.Mem.tail _ (List.Mem.tail _ (List.Mem.tail _ (List.Mem.tail _ (List.Mem.tail _ (List.Mem.tail _ (List.Mem.tail _ (List.Mem.head _)))))))))))))))))))))))))))))), fun z => Bool.noConfusion z, fun _ => ⟨false, He.exm_ok (Y.t.d.facts (f := .exm "InvalidNumber" "InvalidFraction" false) (List.mem_append_left _ (List.mem_append_right _ (List.Mem.tail _ (List.Mem.tail _ (List.Mem.tail _ (List.Mem.tail _ (List.Mem.tail _ (List.Mem.tail _ (List.Mem.tail _ (List.Mem.tail _ (List.Mem.tail _ (List.Mem.tail _ (List.Mem.tail _ (List.Mem.tail _ (List.Mem.tail _ (List.Mem.tail _ (List.Mem.tail _ (List.Mem.tail _ (List.Mem.tail _ (List.Mem.tail _ (List.Mem.tail _ (List.Mem.tail _ (List.Mem.tail _ (List.Mem.tail _ (List.Mem.tail _ (List.Mem.tail _ (List.Mem.tail _ (List.Mem.tail _ (List.Mem.tail _ (List.Mem.head _))))))))))))))))))))))))))))))), fun z => Bool.noConfusion z, fun _ => ⟨true, He.exm_ok (Y.t.d.facts (f := .exm "InvalidNumber" "InvalidNumber" true) (List.mem_append_left _ (List.mem_append_right _ (List.Mem.tail _ (List.Mem.tail _ (List.Mem.tail _ (List.Mem.tail _ (List.Mem.tail _ (List.Mem.tail _ (List.Mem.tail _ (List.Mem.tail _ (List.Mem.tail _ (List.Mem.tail _ (List.Mem.tail _ (List.Mem.tail _ (List.Mem.tail _ (List.Mem.tail _ (List.Mem.tail _ (List.Mem.tail _ (List.Mem.tail _ (List.Mem.tail _ (List.Mem.tail _ (List.Mem.tail _ (List.Mem.tail _ (List.Mem.tail _ (List.Mem.tail _ (List.Mem.tail _ (List.Mem.tail _ (List.Mem.tail _ (List.Mem.tail _ (List.Mem.tail _ (List.Mem.head _)))))))))))))))))))))))))))))))), fun _ => hq, fun z => Bool.noConfusion z⟩⟩⟩⟩⟩
      · have e := hC.symm.trans g_InvalidCurve; cases e; exact ⟨true, He.exm_ok (Y.t.d.facts (f := .exm "InvalidCurve" "InvalidCurve" true) (List.mem_append_left _ (List.mem_append_right _ (List.Mem.tail _ (List.Mem.tail _ (List.Mem.tail _ (List.Mem.tail _ (List.Mem.tail _ (List.Mem.tail _ (List.Mem.tail _ (List.Mem.tail _ (List.Mem.tail _ (List.Mem.tail _ (List.Mem.tail _ (List.Mem.tail _ (List.Mem.tail _ (List.Mem.tail _ (List.Mem.tail _ (List.Mem.tail _ (List.Mem.tail _ (List.Mem.tail _ (List.Mem.tail _ (List.Mem.tail _ (List.Mem.tail _ (List.Mem.tail _ (List.Mem.tail _ (List.Mem.tail _ (List.Mem.tail _ (List.Mem.tail _ (List.Mem.tail _ (List.Mem.tail _ (List.Mem.tail _ (List.Mem.head _))))))))))))))))))))))))))))))))), fun _ => hq, fun z => Bool.noConfusion z⟩
      · have e := hC.symm.trans g_SharePart; cases e; exact ⟨false, He.exm_ok (Y.t.d.facts (f := .exm "SharePart" "InvalidCurve" false) (List.mem_append_right _ (List.Mem.head _))), fun z => Bool.noConfusion z, fun _ => ⟨true, He.exm_ok (Y.t.d.facts (f := .exm "SharePart" "SharePart" true) (List.mem_append_right _ (List.Mem.tail _ (List.Mem.head _)))), fun _ => hq, fun z => Bool.noConfusion z⟩⟩
    · simp only [hs_law_error, List.mem_cons, List.not_mem_nil, or_false] at hq
      rcases hq with rfl | rfl | rfl | rfl | rfl | rfl
      · exact g_InvalidCurve
      · exact g_SharePart
      · exact g_InvalidSurface
      · exact g_InvalidFraction
      · exact g_InvalidNumber
      · exact g_NearError
  have h_law_cup : Has P w ⟨K, mg, tabsOf tf K⟩ base "_law_cup" P_law_cup 1 cLCup := has_of (k := 0) (N := N_law_cup) D__law_cup g__law_cup sc_law_cup (by intro kV doc pm an cdv ct us hl; exact match us, hl with | [_], _ => by kernel_rfl)
      (fun cdv A outer s H E _ hr => body_law_cup (b_list := b_list) (b_abs := b_abs) (b_int := b_int) (hr := hr)) (fun ds S Q E _ hc => cup_ok ds S Q E hc)
  have s_law_cup : Ct.sized cLCup P_law_cup.length := (by intro ds S Q E h; (repeat obtain ⟨_, h⟩ := h); subst_vars; rfl)
  have his_ascending : Has P w ⟨K, mg, tabsOf tf K⟩ base "is_ascending" Pis_ascending 1 cAsc := has_of (k := 0) (N := Nis_ascending) D_is_ascending g_is_ascending scis_ascending (by intro kV doc pm an cdv ct us hl; exact match us, hl with | [_], _ => by kernel_rfl)
      (fun cdv A outer s H E _ hr => bodyis_ascending (b_zip := b_zip) (b_all := b_all) (hr := hr)) (fun ds S Q E _ hc => asc_ok ds S Q E hc)
  have sis_ascending : Ct.sized cAsc Pis_ascending.length := (by intro ds S Q E h; (repeat obtain ⟨_, h⟩ := h); subst_vars; rfl)
  have his_tuple_of : Has P w ⟨K, mg, tabsOf tf K⟩ base "is_tuple_of" Pis_tuple_of 1 cIsTup := has_of (k := 0) (N := Nis_tuple_of) D_is_tuple_of g_is_tuple_of scis_tuple_of (by intro kV doc pm an cdv ct us hl; exact match us, hl with | [_, _, _], _ => by kernel_rfl)
      (fun cdv A outer s H E _ hr => bodyis_tuple_of (b_tuple := b_tuple) (b_isinstance := b_isinstance) (b_len := b_len) (hr := hr)) (fun ds S Q E _ hc => isTup_ok ds S Q E hc)
  have sis_tuple_of : Ct.sized cIsTup Pis_tuple_of.length := (by intro ds S Q E h; (repeat obtain ⟨_, h⟩ := h); subst_vars; rfl)
  have his_whole : Has P w ⟨K, mg, tabsOf tf K⟩ base "is_whole" Pis_whole 1 cWhole := has_of (k := 0) (N := Nis_whole) D_is_whole g_is_whole scis_whole (by intro kV doc pm an cdv ct us hl; exact match us, hl with | [_, _, _], _ => by kernel_rfl)
      (fun cdv A outer s H E _ hr => bodyis_whole (b_int := b_int) (b_isinstance := b_isinstance) (b_bool := b_bool) (hr := hr)) (fun ds S Q E _ hc => whole_ok ds S Q E hc)
  have sis_whole : Ct.sized cWhole Pis_whole.length := (by intro ds S Q E h; (repeat obtain ⟨_, h⟩ := h); subst_vars; rfl)
  have hfits_term : Has P w ⟨K, mg, tabsOf tf K⟩ base "fits_term" Pfits_term 2 cTerm := has_of (k := 1) (N := Nfits_term) D_fits_term g_fits_term scfits_term (by intro kV doc pm an cdv ct us hl; exact match us, hl with | [_], _ => by kernel_rfl)
      (fun cdv A outer s H E _ hr => bodyfits_term (n_POWER := n_POWER) (b_all := b_all) (n_COEFFICIENT_lines := n_COEFFICIENT_lines) (his_tuple_of := his_tuple_of) (sis_tuple_of := sis_tuple_of) (lis_tuple_of := by decide) (his_whole := his_whole) (sis_whole := sis_whole) (lis_whole := by decide) (hr := hr)) (fun ds S Q E _ hc => term_ok ds S Q E hc)
  have sfits_term : Ct.sized cTerm Pfits_term.length := (by intro ds S Q E h; (repeat obtain ⟨_, h⟩ := h); subst_vars; rfl)
  have hfits_surface : Has P w ⟨K, mg, tabsOf tf K⟩ base "fits_surface" Pfits_surface 3 cSurf := has_of (k := 2) (N := Nfits_surface) D_fits_surface g_fits_surface scfits_surface (by intro kV doc pm an cdv ct us hl; exact match us, hl with | [_], _ => by kernel_rfl)
      (fun cdv A outer s H E _ hr => bodyfits_surface (n_TERMS := n_TERMS) (b_all := b_all) (b_tuple := b_tuple) (his_tuple_of := his_tuple_of) (sis_tuple_of := sis_tuple_of) (lis_tuple_of := by decide) (hfits_term := hfits_term) (sfits_term := sfits_term) (lfits_term := by decide) (his_ascending := his_ascending) (sis_ascending := sis_ascending) (lis_ascending := by decide) (hr := hr)) (fun ds S Q E _ hc => surf_ok ds S Q E hc)
  have sfits_surface : Ct.sized cSurf Pfits_surface.length := (by intro ds S Q E h; (repeat obtain ⟨_, h⟩ := h); subst_vars; rfl)
  have hneed_surface : Has P w ⟨K, mg, tabsOf tf K⟩ base "need_surface" Pneed_surface 4 cNeedS := has_of (k := 3) (N := Nneed_surface) D_need_surface g_need_surface scneed_surface (by intro kV doc pm an cdv ct us hl; exact match us, hl with | [_], _ => by kernel_rfl)
      (fun cdv A outer s H E _ hr => bodyneed_surface (x_InvalidSurface := x_InvalidSurface) (hfits_surface := hfits_surface) (sfits_surface := sfits_surface) (lfits_surface := by decide) (hr := hr)) (fun ds S Q E _ hc => needS_ok ds S Q E hc)
  have sneed_surface : Ct.sized cNeedS Pneed_surface.length := (by intro ds S Q E h; (repeat obtain ⟨_, h⟩ := h); subst_vars; rfl)
  have hturned_in : Has P w ⟨K, mg, tabsOf tf K⟩ base "turned_in" Pturned_in 1 cTurnIn := has_of (k := 0) (N := Nturned_in) D_turned_in g_turned_in scturned_in (by intro kV doc pm an cdv ct us hl; exact match us, hl with | [_], _ => by kernel_rfl)
      (fun cdv A outer s H E _ hr => bodyturned_in (b_sorted := b_sorted) (b_tuple := b_tuple) (hr := hr)) (fun ds S Q E _ hc => turnin_ok ds S Q E hc)
  have sturned_in : Ct.sized cTurnIn Pturned_in.length := (by intro ds S Q E h; (repeat obtain ⟨_, h⟩ := h); subst_vars; rfl)
  have hturned : Has P w ⟨K, mg, tabsOf tf K⟩ base "turned" Pturned 5 cTurned := has_of (k := 4) (N := Nturned) D_turned g_turned scturned (by intro kV doc pm an cdv ct us hl; exact match us, hl with | [_], _ => by kernel_rfl)
      (fun cdv A outer s H E _ hr => bodyturned (hneed_surface := hneed_surface) (sneed_surface := sneed_surface) (lneed_surface := by decide) (hturned_in := hturned_in) (sturned_in := sturned_in) (lturned_in := by decide) (hr := hr)) (fun ds S Q E _ hc => turned_ok ds S Q E hc)
  have sturned : Ct.sized cTurned Pturned.length := (by intro ds S Q E h; (repeat obtain ⟨_, h⟩ := h); subst_vars; rfl)
  have his_integer : Has P w ⟨K, mg, tabsOf tf K⟩ base "is_integer" Pis_integer 1 cIsInt := has_of (k := 0) (N := Nis_integer) D_is_integer g_is_integer scis_integer (by intro kV doc pm an cdv ct us hl; exact match us, hl with | [_], _ => by kernel_rfl)
      (fun cdv A outer s H E _ hr => bodyis_integer (b_int := b_int) (b_isinstance := b_isinstance) (b_bool := b_bool) (hr := hr)) (fun ds S Q E _ hc => isInt_ok ds S Q E hc)
  have sis_integer : Ct.sized cIsInt Pis_integer.length := (by intro ds S Q E h; (repeat obtain ⟨_, h⟩ := h); subst_vars; rfl)
  have hfits_any : Has P w ⟨K, mg, tabsOf tf K⟩ base "fits_any" Pfits_any 2 cAny := has_of (k := 1) (N := Nfits_any) D_fits_any g_fits_any scfits_any (by intro kV doc pm an cdv ct us hl; exact match us, hl with | [_], _ => by kernel_rfl)
      (fun cdv A outer s H E _ hr => bodyfits_any (f_gcd := f_gcd) (his_tuple_of := his_tuple_of) (sis_tuple_of := sis_tuple_of) (lis_tuple_of := by decide) (his_integer := his_integer) (sis_integer := sis_integer) (lis_integer := by decide) (hr := hr)) (fun ds S Q E _ hc => any_ok ds S Q E hc)
  have sfits_any : Ct.sized cAny Pfits_any.length := (by intro ds S Q E h; (repeat obtain ⟨_, h⟩ := h); subst_vars; rfl)
  have hfits_fraction : Has P w ⟨K, mg, tabsOf tf K⟩ base "fits_fraction" Pfits_fraction 3 cFrac := has_of (k := 2) (N := Nfits_fraction) D_fits_fraction g_fits_fraction scfits_fraction (by intro kV doc pm an cdv ct us hl; exact match us, hl with | [_], _ => by kernel_rfl)
      (fun cdv A outer s H E _ hr => bodyfits_fraction (b_abs := b_abs) (n_GREATEST := n_GREATEST) (hfits_any := hfits_any) (sfits_any := sfits_any) (lfits_any := by decide) (hr := hr)) (fun ds S Q E _ hc => frac_ok ds S Q E hc)
  have sfits_fraction : Ct.sized cFrac Pfits_fraction.length := (by intro ds S Q E h; (repeat obtain ⟨_, h⟩ := h); subst_vars; rfl)
  have hneed_fraction : Has P w ⟨K, mg, tabsOf tf K⟩ base "need_fraction" Pneed_fraction 4 cNeedF := has_of (k := 3) (N := Nneed_fraction) D_need_fraction g_need_fraction scneed_fraction (by intro kV doc pm an cdv ct us hl; exact match us, hl with | [_], _ => by kernel_rfl)
      (fun cdv A outer s H E _ hr => bodyneed_fraction (x_InvalidFraction := x_InvalidFraction) (hfits_fraction := hfits_fraction) (sfits_fraction := sfits_fraction) (lfits_fraction := by decide) (hr := hr)) (fun ds S Q E _ hc => needF_ok ds S Q E hc)
  have sneed_fraction : Ct.sized cNeedF Pneed_fraction.length := (by intro ds S Q E h; (repeat obtain ⟨_, h⟩ := h); subst_vars; rfl)
  have hmade : Has P w ⟨K, mg, tabsOf tf K⟩ base "made" Pmade 1 cMade := has_of (k := 0) (N := Nmade) D_made g_made scmade (by intro kV doc pm an cdv ct us hl; exact match us, hl with | [_, _], _ => by kernel_rfl)
      (fun cdv A outer s H E _ hr => bodymade (f_gcd := f_gcd) (hr := hr)) (fun ds S Q E _ hc => made_ok ds S Q E hc)
  have smade : Ct.sized cMade Pmade.length := (by intro ds S Q E h; (repeat obtain ⟨_, h⟩ := h); subst_vars; rfl)
  have hplus : Has P w ⟨K, mg, tabsOf tf K⟩ base "plus" Pplus 2 cPlus := has_of (k := 1) (N := Nplus) D_plus g_plus scplus (by intro kV doc pm an cdv ct us hl; exact match us, hl with | [_, _], _ => by kernel_rfl)
      (fun cdv A outer s H E _ hr => bodyplus (hmade := hmade) (smade := smade) (lmade := by decide) (hr := hr)) (fun ds S Q E _ hc => plus_ok ds S Q E hc)
  have splus : Ct.sized cPlus Pplus.length := (by intro ds S Q E h; (repeat obtain ⟨_, h⟩ := h); subst_vars; rfl)
  have htimes : Has P w ⟨K, mg, tabsOf tf K⟩ base "times" Ptimes 2 cTimes := has_of (k := 1) (N := Ntimes) D_times g_times sctimes (by intro kV doc pm an cdv ct us hl; exact match us, hl with | [_, _], _ => by kernel_rfl)
      (fun cdv A outer s H E _ hr => bodytimes (hmade := hmade) (smade := smade) (lmade := by decide) (hr := hr)) (fun ds S Q E _ hc => times_ok ds S Q E hc)
  have stimes : Ct.sized cTimes Ptimes.length := (by intro ds S Q E h; (repeat obtain ⟨_, h⟩ := h); subst_vars; rfl)
  have hpower : Has P w ⟨K, mg, tabsOf tf K⟩ base "power" Ppower 1 cPow := has_of (k := 0) (N := Npower) D_power g_power scpower (by intro kV doc pm an cdv ct us hl; exact match us, hl with | [_, _], _ => by kernel_rfl)
      (fun cdv A outer s H E _ hr => bodypower (b_range := b_range) (hr := hr)) (fun ds S Q E _ hc => pow_ok ds S Q E hc)
  have spower : Ct.sized cPow Ppower.length := (by intro ds S Q E h; (repeat obtain ⟨_, h⟩ := h); subst_vars; rfl)
  have hraised : Has P w ⟨K, mg, tabsOf tf K⟩ base "raised" Praised 2 cRaised := has_of (k := 1) (N := Nraised) D_raised g_raised scraised (by intro kV doc pm an cdv ct us hl; exact match us, hl with | [_, _], _ => by kernel_rfl)
      (fun cdv A outer s H E _ hr => bodyraised (hpower := hpower) (spower := spower) (lpower := by decide) (hr := hr)) (fun ds S Q E _ hc => raised_ok ds S Q E hc)
  have sraised : Ct.sized cRaised Praised.length := (by intro ds S Q E h; (repeat obtain ⟨_, h⟩ := h); subst_vars; rfl)
  have hvalue_in : Has P w ⟨K, mg, tabsOf tf K⟩ base "value_in" Pvalue_in 3 cVal := has_of (k := 2) (N := Nvalue_in) D_value_in g_value_in scvalue_in (by intro kV doc pm an cdv ct us hl; exact match us, hl with | [_, _, _], _ => by kernel_rfl)
      (fun cdv A outer s H E _ hr => bodyvalue_in (t_NONE := t_NONE) (hplus := hplus) (splus := splus) (lplus := by decide) (htimes := htimes) (stimes := stimes) (ltimes := by decide) (hraised := hraised) (sraised := sraised) (lraised := by decide) (hr := hr)) (fun ds S Q E _ hc => val_ok ds S Q E hc)
  have svalue_in : Ct.sized cVal Pvalue_in.length := (by intro ds S Q E h; (repeat obtain ⟨_, h⟩ := h); subst_vars; rfl)
  have hvalue_at : Has P w ⟨K, mg, tabsOf tf K⟩ base "value_at" Pvalue_at 5 cValAt := has_of (k := 4) (N := Nvalue_at) D_value_at g_value_at scvalue_at (by intro kV doc pm an cdv ct us hl; exact match us, hl with | [_, _, _], _ => by kernel_rfl)
      (fun cdv A outer s H E _ hr => bodyvalue_at (hneed_surface := hneed_surface) (sneed_surface := sneed_surface) (lneed_surface := by decide) (hneed_fraction := hneed_fraction) (sneed_fraction := sneed_fraction) (lneed_fraction := by decide) (hvalue_in := hvalue_in) (svalue_in := svalue_in) (lvalue_in := by decide) (hr := hr)) (fun ds S Q E _ hc => valat_ok ds S Q E hc)
  have svalue_at : Ct.sized cValAt Pvalue_at.length := (by intro ds S Q E h; (repeat obtain ⟨_, h⟩ := h); subst_vars; rfl)
  have htrimmed : Has P w ⟨K, mg, tabsOf tf K⟩ base "trimmed" Ptrimmed 1 cTrim := has_of (k := 0) (N := Ntrimmed) D_trimmed g_trimmed sctrimmed (by intro kV doc pm an cdv ct us hl; exact match us, hl with | [_], _ => by kernel_rfl)
      (fun cdv A outer s H E _ hr => bodytrimmed (b_tuple := b_tuple) (hr := hr)) (fun ds S Q E _ hc => trim_ok ds S Q E hc)
  have strimmed : Ct.sized cTrim Ptrimmed.length := (by intro ds S Q E h; (repeat obtain ⟨_, h⟩ := h); subst_vars; rfl)
  have hcontent : Has P w ⟨K, mg, tabsOf tf K⟩ base "content" Pcontent 1 cCont := has_of (k := 0) (N := Ncontent) D_content g_content sccontent (by intro kV doc pm an cdv ct us hl; exact match us, hl with | [_], _ => by kernel_rfl)
      (fun cdv A outer s H E _ hr => bodycontent (f_gcd := f_gcd) (hr := hr)) (fun ds S Q E _ hc => cont_ok ds S Q E hc)
  have scontent : Ct.sized cCont Pcontent.length := (by intro ds S Q E h; (repeat obtain ⟨_, h⟩ := h); subst_vars; rfl)
  have hlessened : Has P w ⟨K, mg, tabsOf tf K⟩ base "lessened" Plessened 2 cLsn := has_of (k := 1) (N := Nlessened) D_lessened g_lessened sclessened (by intro kV doc pm an cdv ct us hl; exact match us, hl with | [_], _ => by kernel_rfl)
      (fun cdv A outer s H E _ hr => bodylessened (b_tuple := b_tuple) (hcontent := hcontent) (scontent := scontent) (lcontent := by decide) (hr := hr)) (fun ds S Q E _ hc => lsn_ok ds S Q E hc)
  have slessened : Ct.sized cLsn Plessened.length := (by intro ds S Q E h; (repeat obtain ⟨_, h⟩ := h); subst_vars; rfl)
  have hprimitive : Has P w ⟨K, mg, tabsOf tf K⟩ base "primitive" Pprimitive 3 cPrim := has_of (k := 2) (N := Nprimitive) D_primitive g_primitive scprimitive (by intro kV doc pm an cdv ct us hl; exact match us, hl with | [_], _ => by kernel_rfl)
      (fun cdv A outer s H E _ hr => bodyprimitive (b_tuple := b_tuple) (hlessened := hlessened) (slessened := slessened) (llessened := by decide) (hr := hr)) (fun ds S Q E _ hc => prim_ok ds S Q E hc)
  have sprimitive : Ct.sized cPrim Pprimitive.length := (by intro ds S Q E h; (repeat obtain ⟨_, h⟩ := h); subst_vars; rfl)
  have hhigh_y : Has P w ⟨K, mg, tabsOf tf K⟩ base "high_y" Phigh_y 1 cHigh := has_of (k := 0) (N := Nhigh_y) D_high_y g_high_y schigh_y (by intro kV doc pm an cdv ct us hl; exact match us, hl with | [_], _ => by kernel_rfl)
      (fun cdv A outer s H E _ hr => bodyhigh_y (b_max := b_max) (hr := hr)) (fun ds S Q E _ hc => high_ok ds S Q E hc)
  have shigh_y : Ct.sized cHigh Phigh_y.length := (by intro ds S Q E h; (repeat obtain ⟨_, h⟩ := h); subst_vars; rfl)
  have hline_by : Has P w ⟨K, mg, tabsOf tf K⟩ base "line_by" Pline_by 4 cLineBy := has_of (k := 3) (N := Nline_by) D_line_by g_line_by scline_by (by intro kV doc pm an cdv ct us hl; exact match us, hl with | [_, _], _ => by kernel_rfl)
      (fun cdv A outer s H E _ hr => bodyline_by (b_max := b_max) (hhigh_y := hhigh_y) (shigh_y := shigh_y) (lhigh_y := by decide) (hpower := hpower) (spower := spower) (lpower := by decide) (htrimmed := htrimmed) (strimmed := strimmed) (ltrimmed := by decide) (hprimitive := hprimitive) (sprimitive := sprimitive) (lprimitive := by decide) (hr := hr)) (fun ds S Q E _ hc => lineby_ok ds S Q E hc)
  have sline_by : Ct.sized cLineBy Pline_by.length := (by intro ds S Q E h; (repeat obtain ⟨_, h⟩ := h); subst_vars; rfl)
  have hline_on : Has P w ⟨K, mg, tabsOf tf K⟩ base "line_on" Pline_on 5 cLineOn := has_of (k := 4) (N := Nline_on) D_line_on g_line_on scline_on (by intro kV doc pm an cdv ct us hl; exact match us, hl with | [_, _], _ => by kernel_rfl)
      (fun cdv A outer s H E _ hr => bodyline_on (hneed_surface := hneed_surface) (sneed_surface := sneed_surface) (lneed_surface := by decide) (hneed_fraction := hneed_fraction) (sneed_fraction := sneed_fraction) (lneed_fraction := by decide) (hline_by := hline_by) (sline_by := sline_by) (lline_by := by decide) (hr := hr)) (fun ds S Q E _ hc => lineon_ok ds S Q E hc)
  have sline_on : Ct.sized cLineOn Pline_on.length := (by intro ds S Q E h; (repeat obtain ⟨_, h⟩ := h); subst_vars; rfl)
  have hdegree_in : Has P w ⟨K, mg, tabsOf tf K⟩ base "degree_in" Pdegree_in 1 cDeg := has_of (k := 0) (N := Ndegree_in) D_degree_in g_degree_in scdegree_in (by intro kV doc pm an cdv ct us hl; exact match us, hl with | [_], _ => by kernel_rfl)
      (fun cdv A outer s H E _ hr => bodydegree_in (b_max := b_max) (hr := hr)) (fun ds S Q E _ hc => deg_ok ds S Q E hc)
  have sdegree_in : Ct.sized cDeg Pdegree_in.length := (by intro ds S Q E h; (repeat obtain ⟨_, h⟩ := h); subst_vars; rfl)
  have hfits_curve : Has P w ⟨K, mg, tabsOf tf K⟩ base "fits_curve" Pfits_curve 4 cCurve := has_of (k := 3) (N := Nfits_curve) D_fits_curve g_fits_curve scfits_curve (by intro kV doc pm an cdv ct us hl; exact match us, hl with | [_], _ => by kernel_rfl)
      (fun cdv A outer s H E _ hr => bodyfits_curve (n_DEGREE := n_DEGREE) (b_abs := b_abs) (n_COEFFICIENT_planevalues := n_COEFFICIENT_planevalues) (b_all := b_all) (hfits_surface := hfits_surface) (sfits_surface := sfits_surface) (lfits_surface := by decide) (hdegree_in := hdegree_in) (sdegree_in := sdegree_in) (ldegree_in := by decide) (hr := hr)) (fun ds S Q E _ hc => curve_ok ds S Q E hc)
  have sfits_curve : Ct.sized cCurve Pfits_curve.length := (by intro ds S Q E h; (repeat obtain ⟨_, h⟩ := h); subst_vars; rfl)
  have his_curve : Has P w ⟨K, mg, tabsOf tf K⟩ base "is_curve" Pis_curve 5 cCurve := has_of (k := 4) (N := Nis_curve) D_is_curve g_is_curve scis_curve (by intro kV doc pm an cdv ct us hl; exact match us, hl with | [_], _ => by kernel_rfl)
      (fun cdv A outer s H E _ hr => bodyis_curve (hfits_curve := hfits_curve) (sfits_curve := sfits_curve) (lfits_curve := by decide) (hr := hr)) (fun ds S Q E _ hc => iscurve_ok ds S Q E hc)
  have sis_curve : Ct.sized cCurve Pis_curve.length := (by intro ds S Q E h; (repeat obtain ⟨_, h⟩ := h); subst_vars; rfl)
  have h_law_roll : Has P w ⟨K, mg, tabsOf tf K⟩ base "_law_roll" P_law_roll 1 cRoll := has_of (k := 0) (N := N_law_roll) D__law_roll g__law_roll sc_law_roll (by intro kV doc pm an cdv ct us hl; exact match us, hl with | [_, _], _ => by kernel_rfl)
      (fun cdv A outer s H E _ hr => body_law_roll (b_int := b_int) (hr := hr)) (fun ds S Q E _ hc => roll_ok ds S Q E hc)
  have s_law_roll : Ct.sized cRoll P_law_roll.length := (by intro ds S Q E h; (repeat obtain ⟨_, h⟩ := h); subst_vars; rfl)
  have h_law_some : Has P w ⟨K, mg, tabsOf tf K⟩ base "_law_some" P_law_some 2 cSome := has_of (k := 1) (N := N_law_some) D__law_some g__law_some sc_law_some (by intro kV doc pm an cdv ct us hl; exact match us, hl with | [_, _], _ => by kernel_rfl)
      (fun cdv A outer s H E _ hr => body_law_some (b_len := b_len) (h_law_roll := h_law_roll) (s_law_roll := s_law_roll) (l_law_roll := by decide) (hr := hr)) (fun ds S Q E _ hc => some_ok ds S Q E hc)
  have s_law_some : Ct.sized cSome P_law_some.length := (by intro ds S Q E h; (repeat obtain ⟨_, h⟩ := h); subst_vars; rfl)
  have h_law_drawn : Has P w ⟨K, mg, tabsOf tf K⟩ base "_law_drawn" P_law_drawn 3 cDrawn := has_of (k := 2) (N := N_law_drawn) D__law_drawn g__law_drawn sc_law_drawn (by intro kV doc pm an cdv ct us hl; exact match us, hl with | [_], _ => by kernel_rfl)
      (fun cdv A outer s H E _ hr => body_law_drawn (b_range := b_range) (b_sorted := b_sorted) (b_tuple := b_tuple) (h_law_roll := h_law_roll) (s_law_roll := s_law_roll) (l_law_roll := by decide) (h_law_some := h_law_some) (s_law_some := s_law_some) (l_law_some := by decide) (hr := hr)) (fun ds S Q E _ hc => drawn_ok ds S Q E hc)
  have s_law_drawn : Ct.sized cDrawn P_law_drawn.length := (by intro ds S Q E h; (repeat obtain ⟨_, h⟩ := h); subst_vars; rfl)
  have h_law_common : Has P w ⟨K, mg, tabsOf tf K⟩ base "_law_common" P_law_common 1 cCommon := has_of (k := 0) (N := N_law_common) D__law_common g__law_common sc_law_common (by intro kV doc pm an cdv ct us hl; exact match us, hl with | [_, _], _ => by kernel_rfl)
      (fun cdv A outer s H E _ hr => body_law_common (b_int := b_int) (hr := hr)) (fun ds S Q E _ hc => common_ok ds S Q E hc)
  have s_law_common : Ct.sized cCommon P_law_common.length := (by intro ds S Q E h; (repeat obtain ⟨_, h⟩ := h); subst_vars; rfl)
  have h_law_made : Has P w ⟨K, mg, tabsOf tf K⟩ base "_law_made" P_law_made 2 cMade := has_of (k := 1) (N := N_law_made) D__law_made g__law_made sc_law_made (by intro kV doc pm an cdv ct us hl; exact match us, hl with | [_, _], _ => by kernel_rfl)
      (fun cdv A outer s H E _ hr => body_law_made (h_law_common := h_law_common) (s_law_common := s_law_common) (l_law_common := by decide) (hr := hr)) (fun ds S Q E _ hc => lawmade_ok ds S Q E hc)
  have s_law_made : Ct.sized cMade P_law_made.length := (by intro ds S Q E h; (repeat obtain ⟨_, h⟩ := h); subst_vars; rfl)
  have h_law_fraction : Has P w ⟨K, mg, tabsOf tf K⟩ base "_law_fraction" P_law_fraction 3 cLFrac := has_of (k := 2) (N := N_law_fraction) D__law_fraction g__law_fraction sc_law_fraction (by intro kV doc pm an cdv ct us hl; exact match us, hl with | [_], _ => by kernel_rfl)
      (fun cdv A outer s H E _ hr => body_law_fraction (h_law_made := h_law_made) (s_law_made := s_law_made) (l_law_made := by decide) (h_law_roll := h_law_roll) (s_law_roll := s_law_roll) (l_law_roll := by decide) (hr := hr)) (fun ds S Q E _ hc => lfrac_ok ds S Q E hc)
  have s_law_fraction : Ct.sized cLFrac P_law_fraction.length := (by intro ds S Q E h; (repeat obtain ⟨_, h⟩ := h); subst_vars; rfl)
  have hN_law_alike := has_never (P := P) (w := w) (G := ⟨K, mg, tabsOf tf K⟩) (base := base) (ps := P_law_alike) D__law_alike g__law_alike (by intro kV doc pm an cdv ct us hl; exact match us, hl with | [_, _], _ => by kernel_rfl)
  have sR_law_alike : ∀ i, Ct.sized (cAlike i) P_law_alike.length := fun i => (by intro ds S Q E h; (repeat obtain ⟨_, h⟩ := h); subst_vars; rfl)
  have hS_law_alike : ∀ (i kk k : Nat) (c : Ct), Has P w ⟨K, mg, tabsOf tf K⟩ base "_law_alike" P_law_alike kk c → Ct.sized c P_law_alike.length → kk ≤ k → 0 ≤ k → (∀ e, i = e + 1 → c = cAlike e) → Has P w ⟨K, mg, tabsOf tf K⟩ base "_law_alike" P_law_alike (k + 1) (cAlike i) := fun i kk k c hp sp hk hb hcc => has_of (k := k) (N := N_law_alike) D__law_alike g__law_alike sc_law_alike (by intro kV doc pm an cdv ct us hl; exact match us, hl with | [_, _], _ => by kernel_rfl)
      (fun cdv A outer s H E _ hr => body_law_alike (b_bool := b_bool) (b_isinstance := b_isinstance) (b_tuple := b_tuple) (b_len := b_len) (b_zip := b_zip) (h_law_alike := hp) (s_law_alike := sp) (l_law_alike := hk) (hr := hr)) (fun ds S Q E _ hc => (alike_ok i c hcc) ds S Q E hc)
  have hR_law_alike : ∀ i, Has P w ⟨K, mg, tabsOf tf K⟩ base "_law_alike" P_law_alike (0 + i + 1) (cAlike i) := fun i => Nat.rec (hS_law_alike 0 0 0 _ hN_law_alike never_sized (Nat.zero_le _) (Nat.le_refl _) (fun e h => absurd h (by omega))) (fun i ih => hS_law_alike (i + 1) _ (0 + i + 1) (cAlike i) ih (sR_law_alike i) (Nat.le_refl _) (by omega) (fun e h => by cases h; rfl)) i
  have h_law_alike : Has P w ⟨K, mg, tabsOf tf K⟩ base "_law_alike" P_law_alike 4 (cAlike 3) := hR_law_alike 3
  have s_law_alike := sR_law_alike 3
  have htotal_degree : Has P w ⟨K, mg, tabsOf tf K⟩ base "total_degree" Ptotal_degree 5 cTot := has_of (k := 4) (N := Ntotal_degree) D_total_degree g_total_degree sctotal_degree (by intro kV doc pm an cdv ct us hl; exact match us, hl with | [_], _ => by kernel_rfl)
      (fun cdv A outer s H E _ hr => bodytotal_degree (hneed_surface := hneed_surface) (sneed_surface := sneed_surface) (lneed_surface := by decide) (hdegree_in := hdegree_in) (sdegree_in := sdegree_in) (ldegree_in := by decide) (hr := hr)) (fun ds S Q E _ hc => tot_ok ds S Q E hc)
  have stotal_degree : Ct.sized cTot Ptotal_degree.length := (by intro ds S Q E h; (repeat obtain ⟨_, h⟩ := h); subst_vars; rfl)
  have h_law_plus : Has P w ⟨K, mg, tabsOf tf K⟩ base "_law_plus" P_law_plus 3 cPlus := has_of (k := 2) (N := N_law_plus) D__law_plus g__law_plus sc_law_plus (by intro kV doc pm an cdv ct us hl; exact match us, hl with | [_, _], _ => by kernel_rfl)
      (fun cdv A outer s H E _ hr => body_law_plus (h_law_made := h_law_made) (s_law_made := s_law_made) (l_law_made := by decide) (hr := hr)) (fun ds S Q E _ hc => lplus_ok ds S Q E hc)
  have s_law_plus : Ct.sized cPlus P_law_plus.length := (by intro ds S Q E h; (repeat obtain ⟨_, h⟩ := h); subst_vars; rfl)
  have h_law_times : Has P w ⟨K, mg, tabsOf tf K⟩ base "_law_times" P_law_times 3 cTimes := has_of (k := 2) (N := N_law_times) D__law_times g__law_times sc_law_times (by intro kV doc pm an cdv ct us hl; exact match us, hl with | [_, _], _ => by kernel_rfl)
      (fun cdv A outer s H E _ hr => body_law_times (h_law_made := h_law_made) (s_law_made := s_law_made) (l_law_made := by decide) (hr := hr)) (fun ds S Q E _ hc => ltimes_ok ds S Q E hc)
  have s_law_times : Ct.sized cTimes P_law_times.length := (by intro ds S Q E h; (repeat obtain ⟨_, h⟩ := h); subst_vars; rfl)
  have h_law_value_at : Has P w ⟨K, mg, tabsOf tf K⟩ base "_law_value_at" P_law_value_at 4 cVal := has_of (k := 3) (N := N_law_value_at) D__law_value_at g__law_value_at sc_law_value_at (by intro kV doc pm an cdv ct us hl; exact match us, hl with | [_, _, _], _ => by kernel_rfl)
      (fun cdv A outer s H E _ hr => body_law_value_at (b_range := b_range) (h_law_times := h_law_times) (s_law_times := s_law_times) (l_law_times := by decide) (h_law_plus := h_law_plus) (s_law_plus := s_law_plus) (l_law_plus := by decide) (hr := hr)) (fun ds S Q E _ hc => lval_ok ds S Q E hc)
  have s_law_value_at : Ct.sized cVal P_law_value_at.length := (by intro ds S Q E h; (repeat obtain ⟨_, h⟩ := h); subst_vars; rfl)
  have h_law_line : Has P w ⟨K, mg, tabsOf tf K⟩ base "_law_line" P_law_line 4 cLLn := has_of (k := 3) (N := N_law_line) D__law_line g__law_line sc_law_line (by intro kV doc pm an cdv ct us hl; exact match us, hl with | [_, _], _ => by kernel_rfl)
      (fun cdv A outer s H E _ hr => body_law_line (b_range := b_range) (b_tuple := b_tuple) (h_law_times := h_law_times) (s_law_times := s_law_times) (l_law_times := by decide) (h_law_plus := h_law_plus) (s_law_plus := s_law_plus) (l_law_plus := by decide) (h_law_common := h_law_common) (s_law_common := s_law_common) (l_law_common := by decide) (hr := hr)) (fun ds S Q E _ hc => lln_ok ds S Q E hc)
  have s_law_line : Ct.sized cLLn P_law_line.length := (by intro ds S Q E h; (repeat obtain ⟨_, h⟩ := h); subst_vars; rfl)
  have hlaw : Has P w ⟨K, mg, tabsOf tf K⟩ base "law" Plaw 8 cLaw := has_of (k := 7) (N := Nlaw) D_law g_law sclaw (by intro kV doc pm an cdv ct us hl; exact match us, hl with | [_], _ => by kernel_rfl)
      (fun cdv A outer s H E ⟨oc, od, fd, osl, lk, e, cc, hc⟩ hr => by
        subst hc
        have ec : He.codeOf K ("law", none) = cc := He.codeOf_eq lk e
        have TB := TBs ("law", none) (List.Mem.head _)
        have hmT : ((He.cT K ("law", none)).2, ("law" : Str) ++ ".<locals>." ++ "<lambda>") ∈ tabsOf tf K := (List.Mem.head _)
        have hu : ∀ p ∈ tabsOf tf K, p.1 = (He.cT K ("law", none)).2 → p.2 = ("law" : Str) ++ ".<locals>." ++ "<lambda>" := by
          intro p hp he
          simp only [tabsOf, tf, List.map_cons, List.map_nil, List.mem_cons, List.not_mem_nil, or_false] at hp
          subst hp
          rfl
        have e1 : (He.cT K ("law", none)).1 = cc := ec
        rw [e1] at TB
        exact bodylaw (TB := TB) (hmT := hmT) (hu := hu) (hk2 := by decide) (b_range := b_range) (b_max := b_max) (b_sorted := b_sorted) (b_tuple := b_tuple) (T_law_error := T_law_error) (h_law_cup := h_law_cup) (s_law_cup := s_law_cup) (l_law_cup := by decide) (h_law_fraction := h_law_fraction) (s_law_fraction := s_law_fraction) (l_law_fraction := by decide) (h_law_drawn := h_law_drawn) (s_law_drawn := s_law_drawn) (l_law_drawn := by decide) (h_law_alike := h_law_alike) (s_law_alike := s_law_alike) (l_law_alike := by decide) (htotal_degree := htotal_degree) (stotal_degree := stotal_degree) (ltotal_degree := by decide) (h_law_value_at := h_law_value_at) (s_law_value_at := s_law_value_at) (l_law_value_at := by decide) (hvalue_at := hvalue_at) (svalue_at := svalue_at) (lvalue_at := by decide) (h_law_line := h_law_line) (s_law_line := s_law_line) (l_law_line := by decide) (hline_on := hline_on) (sline_on := sline_on) (lline_on := by decide) (hturned := hturned) (sturned := sturned) (lturned := by decide) (his_curve := his_curve) (sis_curve := sis_curve) (lis_curve := by decide) (hr := hr))
      (fun ds S Q E _ hc => law_ok ds S Q E hc)
  exact hlaw
def loose0 : List PySem.Str := ["__name__", "NearError", "InvalidFraction", "InvalidSurface", "InvalidNumber", "InvalidCurve", "SharePart", "is_whole", "is_integer", "is_tuple_of", "is_ascending", "GREATEST", "NONE", "made", "fits_any", "fits_fraction", "plus", "times", "need_fraction", "COEFFICIENT_lines", "TERMS", "POWER", "fits_term", "fits_surface", "need_surface"]
def loose1 : List PySem.Str := ["trimmed", "content", "lessened", "primitive", "DEGREE", "COEFFICIENT_planevalues", "degree_in", "fits_curve", "power", "raised", "value_in", "turned_in", "high_y", "line_by", "is_curve", "total_degree", "value_at", "line_on", "turned", "_law_cup", "_law_roll", "_law_some", "_law_common", "_law_made", "_law_plus"]
def loose2 : List PySem.Str := ["_law_times", "_law_is_less", "_law_fraction", "_law_value_at", "_law_error", "_law_alike", "_law_drawn", "_law_line"]
abbrev loose : List PySem.Str := loose0 ++ loose1 ++ loose2
abbrev R : PySem.W.OpenRow := PySem.W.OpenLaw.row PySem.Challenge.rw_nearplain_k62_values_on_surfaces
abbrev hk : PySem.W.Hook := He.hookX 4 fa fnl [] tf ex
def ob (s : PySem.W.SharedT) : He.AlX := He.obsX 4 fa fnl [] tf ex (HandSHeadRun.getT s)
theorem ob_eq (s : PySem.W.SharedT) : ob s = hk.obs s.abs := He.obsX_eq (HandSHeadRun.getT_eq s)
theorem run (w : World) : HandSHeadRun.RunEqI R (PySem.W.view R.prog [0, 65]) hk ob 6000 loose w := by
  unfold HandSHeadRun.RunEqI
  kernel_rfl
end LawX
open PySem PySem.W PySem.Calls PyProof.Rows
theorem PySem.Challenge.cw_nearplain_k62_values_on_surfaces_holds : PySem.Challenge.rw_nearplain_k62_values_on_surfaces.Holds := by
  w_on; o_law
  refine HandSHeadRun.head_imp (r := LawX.R) (q := view LawX.R.prog [0, 65]) (H := LawX.hk) (ob := LawX.ob) (M := 6000) (loose := LawX.loose) (d := HandSHeadRun.topDef LawX.R.prog 65) (kwd := []) LawX.ob_eq
     LawX.run (by kernel_rfl) (by kernel_rfl) (by kernel_rfl) (by rfl) (by first | assumption | decide +kernel) (by decide +kernel) ⟨rfl, rfl, rfl, rfl, rfl, by decide +kernel⟩ ?hw ?hc
  case hw => w_witness2
  case hc =>
    refine Dx.dx_walk (l := PySem.Challenge.rw_nearplain_k62_values_on_surfaces) (n := 63) (nn := 4) (k := 8) (nm := "law") (x := "script") (st := LawX.stlaw) (c := fun _ _ => LawX.cLaw) rfl (by decide) (by kernel_rfl) (by kernel_rfl) ⟨rfl, by decide, by decide⟩ (fun K h => (Bool.and_eq_true_iff.mp h).1) (List.Mem.tail _ (List.Mem.tail _ (List.Mem.tail _ (List.Mem.tail _ (List.Mem.tail _ (List.Mem.tail _ (List.Mem.tail _ (List.Mem.tail _ (List.Mem.tail _ (List.Mem.tail _ (List.Mem.tail _ (List.Mem.tail _ (List.Mem.tail _ (List.Mem.tail _ (List.Mem.tail _ (List.Mem.tail _ (List.Mem.tail _ (List.Mem.tail _ (List.Mem.tail _ (List.Mem.tail _ (List.Mem.tail _ (List.Mem.tail _ (List.Mem.tail _ (List.Mem.tail _ (List.Mem.tail _ (List.Mem.tail _ (List.Mem.tail _ (List.Mem.tail _ (List.Mem.tail _ (List.Mem.tail _ (List.Mem.tail _ (List.Mem.tail _ (List.Mem.tail _ (List.Mem.tail _ (List.Mem.tail _ (List.Mem.tail _ (List.Mem.tail _ (List.Mem.tail _ (List.Mem.tail _ (List.Mem.tail _ (List.Mem.tail _ (List.Mem.tail _ (List.Mem.tail _ (List.Mem.head _)))))))))))))))))))))))))))))))))))))))))))) (List.mem_append_left _ (List.mem_append_left _ (List.mem_append_right _ (List.Mem.tail _ (List.Mem.tail _ (List.Mem.tail _ (List.Mem.tail _ (List.Mem.tail _ (List.Mem.tail _ (List.Mem.tail _ (List.Mem.tail _ (List.Mem.tail _ (List.Mem.tail _ (List.Mem.tail _ (List.Mem.tail _ (List.Mem.tail _ (List.Mem.head _)))))))))))))))))
      (by intro kV doc pm an cdv ct us hl; exact match us, hl with | [_], _ => by kernel_rfl) (fun w mg h K KX G Y base Kb Gb TB => LawX.chain KX G Y base Kb Gb TB) (fun w G ns hl hb => ⟨ns, rfl, hl, rfl, fun _ => rfl⟩)
