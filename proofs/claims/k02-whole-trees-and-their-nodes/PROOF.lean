import PyProof.Rows.All
import Wide.All
import OpenK.AllK
import Wide.FinOn
import HandS.ForMost
import HandS.Exc
import HandS.ExcOwn
import HandS.TryOnly
import HandS.TryMany
import HandS.WordsExc
import HandS.Lambda
import HandS.IsInst
import HandS.Style
import HandS.Wide
import HandS.Gcd
import HandS.Flow
import HandS.TupAny
import HandS.Deep
import HandS.TupMul
import PyProof.Rows.IntBool
import PyProof.Rows.RuleB_bool
import HandS.Text
import HandS.Iter
import HandS.Comp
import HandS.ExcValueHot
import HandS.Defaults
import HandS.HeadHook4
import HandS.HeadWalk
import HandS.Head2
import PySem.Challenge.RW_nearplain_k02_whole_trees_and_their_node
import KE.KStateDown
import HandS.Head0
import HandS.Head1
import HandS.Head3
set_option Elab.async false
set_option linter.all false
set_option maxRecDepth 100000
set_option maxHeartbeats 4000000
/-! DX, part 1: plain data, how the heap bears it, what a state is. -/
namespace Dx
open PySem PySem.Spec PyProof.Rows L2

/-- plain data: tuples and lists that nobody changes are values; what is changed stands in the store -/
inductive D where
  | non | bl (b : Bool) | int (i : Int) | str (s : Str) | tup (ds : List D) | lst (ds : List D) | obj (n : Nat) | ty (n : String) | gl (x : Str) | exv (n : Nat)
  deriving Inhabited
/-- what stands in the store -/
inductive Ob where
  | dead | lst (ds : List D) | dct (kvs : List (List Key × D))
  deriving Inhabited
abbrev Store := List Ob
abbrev Env := List (Option D)
/-- where the store's objects stand (none: dead); the lists that comprehensions are filling -/
structure Mp where
  sl : List (Option Addr)
  hid : List Addr := []
/-- an exception: its class's name, its fields -/
structure Ex where
  cls : Str
  fs : List (Str × D) := []

def Live (m : Mp) (a : Addr) : Prop := (∃ n : Nat, m.sl[n]? = some (some a)) ∨ a ∈ m.hid
def KL (K : PySem.W.Frag) (a : Addr) (xs : List V) : Prop := ∃ (its : List Value) (n : Nat), K.lookup a = some { cls := .type "list", data := .seq its.toArray n } ∧ its.length ≤ sizeLine ∧ Vals xs its
/-- a list that is to be read -/
def SqX (K : PySem.W.Frag) (H : Hp) (a : Addr) (xs : List V) : Prop := Rd H a (.lst xs) ∨ KL K a xs
theorem SqX.sq {K : PySem.W.Frag} {H : Hp} {a : Addr} {xs : List V} (h : SqX K H a xs) : SqL K H a xs := by
  rcases h with h | ⟨its, n, h1, h2, h3⟩
  · exact .inl h
  · exact .inr ⟨_, its.toArray, n, h1, rfl, rfl, rfl, by simpa using h2, by simpa using h3⟩
theorem listX {X : Cx} {pins : List (Addr × Obj)} {σ : L2.St} {H : Hp} {s : Shared} {a : Addr} {xs : List V} (I : Inv X pins σ H s) (h : SqX X.K H a xs) :
    xs.length ≤ sizeLine ∧ ∃ (its : List Value) (n : Nat), Vals xs its ∧ xs.length = its.length ∧ s.heap.get? a = some { cls := .type "list", data := .seq its.toArray n } := by
  rcases h with h | ⟨its, n, h1, h2, h3⟩
  · obtain ⟨z, its, n, r, e⟩ := h.ok I.hok
    exact ⟨z, its, n, r, r.length, e⟩
  · exact ⟨by rw [h3.length]; exact h2, its, n, h3, h3.length, I.kIn a _ h1⟩

/-- the law's ground: the written part and the module's names -/
structure Gr where
  K : PySem.W.Frag
  mg : Str → Option Value
  T : List (Addr × Str) := []

mutual
inductive Rep (G : Gr) (m : Mp) (H : Hp) : V → D → Prop
  | non : Rep G m H .non .non
  | bl (b : Bool) : Rep G m H (.bl b) (.bl b)
  | int (i : Int) : Rep G m H (.int i) (.int i)
  | str (s : Str) : Rep G m H (.str s) (.str s)
  | tup {a : Addr} {xs : List V} {ds : List D} : SqT G.K H a xs → RepAll G m H xs ds → Rep G m H (.ref a) (.tup ds)
  | lst {a : Addr} {xs : List V} {ds : List D} : Rd H a (.lst xs) → ¬ Live m a → RepAll G m H xs ds → Rep G m H (.ref a) (.lst ds)
  | klst {a : Addr} {xs : List V} {ds : List D} : KL G.K a xs → RepAll G m H xs ds → Rep G m H (.ref a) (.lst ds)
  | obj {n : Nat} {a : Addr} : n < m.sl.length → (∀ a', m.sl[n]? = some (some a') → a' = a) → Rep G m H (.ref a) (.obj n)
  | ty (n : String) : Rep G m H (.ty n) (.ty n)
  | gl {x : Str} {a : Addr} : G.mg x = some (.ref a) → Rep G m H (.ref a) (.gl x)
  | exv {a : Addr} : Rep G m H (.ref a) (.exv a)
inductive RepAll (G : Gr) (m : Mp) (H : Hp) : List V → List D → Prop
  | nil : RepAll G m H [] []
  | cons {v : V} {vs : List V} {d : D} {ds : List D} : Rep G m H v d → RepAll G m H vs ds → RepAll G m H (v :: vs) (d :: ds)
end

/-- nothing is known at a, but perhaps a table -/
def NoT (H : Hp) (a : Addr) : Prop := ∀ o, H a = some o → ∃ ps, o = .tbl ps
theorem NoT.none {H : Hp} {a : Addr} (h : H a = none) : NoT H a := fun o e => by rw [h] at e; cases e
theorem NoT.ne {H H' : Hp} {b : Addr} (e : H' b = H b) (h : NoT H' b) : NoT H b := fun o q => h o (e.trans q)
/-- what stays from one state to a later one -/
structure Ext (m : Mp) (H : Hp) (m' : Mp) (H' : Hp) : Prop where
  len : m.sl.length ≤ m'.sl.length
  old : ∀ (n : Nat) a, n < m.sl.length → m'.sl[n]? = some (some a) → m.sl[n]? = some (some a)
  new : ∀ (n : Nat) a, m.sl.length ≤ n → m'.sl[n]? = some (some a) → NoT H a
  keep : ∀ b o, H b = some o → ¬ Live m b → (∀ ps, o ≠ .tbl ps) → H' b = some o
  there : ∀ b, NoT H' b → NoT H b
  hid : m'.hid = m.hid
  hidk : ∀ a ∈ m.hid, H' a = H a
theorem Ext.refl (m : Mp) (H : Hp) : Ext m H m H := ⟨Nat.le_refl _, fun _ _ _ h => h, fun n a h e => (by rw [List.getElem?_eq_none (by omega)] at e; cases e), fun _ _ h _ _ => h, fun _ h => h, rfl, fun _ _ => rfl⟩
theorem Ext.notLive {m m' : Mp} {H H' : Hp} (e : Ext m H m' H') {b : Addr} {o : HO} (h : H b = some o) (n : ¬ Live m b) (t : ∀ ps, o ≠ .tbl ps) : ¬ Live m' b := by
  rintro (⟨i, hi⟩ | hi)
  · by_cases hl : i < m.sl.length
    · exact n (.inl ⟨i, e.old i b hl hi⟩)
    · obtain ⟨ps, z⟩ := e.new i b (by omega) hi o h
      exact t ps z
  · rw [e.hid] at hi
    exact n (.inr hi)
theorem Ext.trans {m m1 m2 : Mp} {H H1 H2 : Hp} (a : Ext m H m1 H1) (b : Ext m1 H1 m2 H2) : Ext m H m2 H2 where
  len := Nat.le_trans a.len b.len
  old := fun n x hn h => a.old n x hn (b.old n x (Nat.lt_of_lt_of_le hn a.len) h)
  new := fun n x hn h => by
    by_cases hl : n < m1.sl.length
    · exact a.new n x hn (b.old n x hl h)
    · exact a.there x (b.new n x (by omega) h)
  keep := fun x o h n t => b.keep x o (a.keep x o h n t) (a.notLive h n t) t
  there := fun x h => a.there x (b.there x h)
  hid := b.hid.trans a.hid
  hidk := fun x hx => (b.hidk x (by rw [a.hid]; exact hx)).trans (a.hidk x hx)

section
variable {G : Gr} {m m' : Mp} {H H' : Hp}
theorem Ext.rd {a : Addr} {u : HO} (e : Ext m H m' H') (h : Rd H a u) (n : ¬ Live m a) (t : ∀ ps, u ≠ .tbl ps) : Rd H' a u := by
  rcases h with h | ⟨o, h⟩
  · exact .inl (e.keep _ _ h n t)
  · exact .inr ⟨o, e.keep _ _ h n (fun ps z => by cases z)⟩

/-- a dict's entries: keys are tuples of ints and texts -/
def keyI : Key → D
  | .inl i => .int i
  | .inr x => .str x
def keyT (k : List Key) : D := .tup (k.map keyI)
inductive DctR (G : Gr) (m : Mp) (H : Hp) : List (List Key × V) → List (List Key × D) → Prop
  | nil : DctR G m H [] []
  | cons {k : List Key} {v : V} {d : D} {ws : List (List Key × V)} {kvs : List (List Key × D)} : Rep G m H v d → DctR G m H ws kvs → DctR G m H ((k, v) :: ws) ((k, d) :: kvs)
/-- what stands at a live place -/
def LiveO (o : HO) : Prop := (∃ xs, o = .lst xs) ∨ ∃ ws, o = .dT ws
/-- the store: live places hold what the store says -/
def ObR (G : Gr) (m : Mp) (H : Hp) (a : Addr) : Ob → Prop
  | .dead => False
  | .lst ds => ∃ xs, H a = some (.lst xs) ∧ RepAll G m H xs ds
  | .dct kvs => ∃ ws, H a = some (.dT ws) ∧ DctR G m H ws kvs
structure SR (G : Gr) (m : Mp) (S : Store) (H : Hp) : Prop where
  len : S.length = m.sl.length
  inj : ∀ (i j : Nat) a, m.sl[i]? = some (some a) → m.sl[j]? = some (some a) → i = j
  at_ : ∀ (n : Nat) a o, m.sl[n]? = some (some a) → S[n]? = some o → ObR G m H a o
  tabs : LamX.Tabs G.T H
  dead : ∀ n : Nat, m.sl[n]? = some none → S[n]? = some .dead
  hidt : ∀ a ∈ m.hid, (∃ xs, H a = some (.lst xs)) ∧ ∀ n : Nat, m.sl[n]? ≠ some (some a)
/-- the tables stay where nothing is written but a list -/
theorem tabs_but {T : List (Addr × Str)} {H H' : Hp} (t : LamX.Tabs T H) (e : ∀ b o, H b = some o → ¬ LiveO o → H' b = some o) : LamX.Tabs T H' := fun p hp => by
  obtain ⟨ps, h1, h2, h3⟩ := t p hp
  refine ⟨ps, e _ _ h1 (fun z => by rcases z with ⟨xs, z⟩ | ⟨xs, z⟩ <;> cases z), h2, fun pos cv hc => ?_⟩
  obtain ⟨c, e1, e2⟩ := h3 pos cv hc
  exact ⟨c, e1, e _ _ e2 (fun z => by rcases z with ⟨xs, z⟩ | ⟨xs, z⟩ <;> (unfold LamX.CodeO at z; cases z))⟩
theorem SR.tracked (sr : SR G m S H) {a : Addr} (h : Live m a) : ∃ o, H a = some o ∧ LiveO o := by
  rcases h with ⟨n, hn⟩ | h
  rotate_left
  · obtain ⟨⟨xs, e⟩, _⟩ := sr.hidt a h
    exact ⟨_, e, .inl ⟨xs, rfl⟩⟩
  have hl : n < S.length := by rw [sr.len]; exact (List.getElem?_eq_some_iff.mp hn).1
  obtain ⟨o, ho⟩ : ∃ o, S[n]? = some o := ⟨S[n], List.getElem?_eq_getElem hl⟩
  have z := sr.at_ n a o hn ho
  cases o with
  | dead => exact z.elim
  | lst ds => obtain ⟨xs, h, _⟩ := z; exact ⟨_, h, .inl ⟨xs, rfl⟩⟩
  | dct kvs => obtain ⟨xs, h, _⟩ := z; exact ⟨_, h, .inr ⟨xs, rfl⟩⟩
/-- no tuple is live -/
theorem SR.notTup (sr : SR G m S H) {a : Addr} {xs : List V} (h : Rd H a (.tup xs)) : ¬ Live m a := fun l => by
  obtain ⟨o', e, z⟩ := sr.tracked l
  rcases h with h | ⟨o, h⟩ <;> (rw [h] at e; cases e; rcases z with ⟨_, z⟩ | ⟨_, z⟩ <;> cases z)
theorem SR.notFrz (sr : SR G m S H) {a : Addr} {o : Obj} {u : HO} (h : H a = some (.frz o u)) : ¬ Live m a := fun l => by
  obtain ⟨o', e, z⟩ := sr.tracked l
  rw [h] at e; cases e; rcases z with ⟨_, z⟩ | ⟨_, z⟩ <;> cases z
/-- an address without content is not live -/
theorem SR.notNone (sr : SR G m S H) {a : Addr} (h : H a = none) : ¬ Live m a := fun l => by
  obtain ⟨o', e, z⟩ := sr.tracked l
  rw [h] at e; cases e
end

/-- what keeps the meaning of data -/
structure Ext0 (m : Mp) (H : Hp) (m' : Mp) (H' : Hp) : Prop where
  len : m.sl.length ≤ m'.sl.length
  old : ∀ (n : Nat) a, n < m.sl.length → m'.sl[n]? = some (some a) → m.sl[n]? = some (some a)
  keep : ∀ b o, H b = some o → ¬ Live m b → (∀ ps, o ≠ .tbl ps) → H' b = some o
  nl : ∀ b o, H b = some o → ¬ Live m b → (∀ ps, o ≠ .tbl ps) → ¬ Live m' b
theorem Ext.to0 {m m' : Mp} {H H' : Hp} (e : Ext m H m' H') : Ext0 m H m' H' := ⟨e.len, e.old, e.keep, fun _ _ h n t => e.notLive h n t⟩
theorem Ext0.rd {m m' : Mp} {H H' : Hp} {a : Addr} {u : HO} (e : Ext0 m H m' H') (h : Rd H a u) (n : ¬ Live m a) (t : ∀ ps, u ≠ .tbl ps) : Rd H' a u ∧ ¬ Live m' a := by
  rcases h with h | ⟨o, h⟩
  · exact ⟨.inl (e.keep _ _ h n t), e.nl _ _ h n t⟩
  · exact ⟨.inr ⟨o, e.keep _ _ h n (fun ps z => by cases z)⟩, e.nl _ _ h n (fun ps z => by cases z)⟩
mutual
theorem Rep.mono0 {G : Gr} {m m' : Mp} {S : Store} {H H' : Hp} (sr : SR G m S H) (e : Ext0 m H m' H') : ∀ {v : V} {d : D}, Rep G m H v d → Rep G m' H' v d
  | _, _, .non => .non
  | _, _, .bl b => .bl b
  | _, _, .int i => .int i
  | _, _, .str s => .str s
  | _, _, .tup h r => .tup (by
      rcases h with h | h
      · exact .inl (e.rd h (sr.notTup h) (fun ps z => by cases z)).1
      · exact .inr h) (RepAll.mono0 sr e r)
  | _, _, .lst h n r => .lst (e.rd h n (fun ps z => by cases z)).1 (e.rd h n (fun ps z => by cases z)).2 (RepAll.mono0 sr e r)
  | _, _, .klst h r => .klst h (RepAll.mono0 sr e r)
  | _, _, .obj h1 h2 => .obj (Nat.lt_of_lt_of_le h1 e.len) (fun a' h => h2 a' (e.old _ _ h1 h))
  | _, _, .ty n => .ty n
  | _, _, .gl h => .gl h
  | _, _, .exv => .exv
theorem RepAll.mono0 {G : Gr} {m m' : Mp} {S : Store} {H H' : Hp} (sr : SR G m S H) (e : Ext0 m H m' H') : ∀ {xs : List V} {ds : List D}, RepAll G m H xs ds → RepAll G m' H' xs ds
  | _, _, .nil => .nil
  | _, _, .cons a r => .cons (Rep.mono0 sr e a) (RepAll.mono0 sr e r)
end
theorem Rep.mono {G : Gr} {m m' : Mp} {S : Store} {H H' : Hp} (sr : SR G m S H) (e : Ext m H m' H') {v : V} {d : D} (r : Rep G m H v d) : Rep G m' H' v d := r.mono0 sr e.to0
theorem RepAll.mono {G : Gr} {m m' : Mp} {S : Store} {H H' : Hp} (sr : SR G m S H) (e : Ext m H m' H') {xs : List V} {ds : List D} (r : RepAll G m H xs ds) : RepAll G m' H' xs ds := r.mono0 sr e.to0
theorem DctR.mono0 {G : Gr} {m m' : Mp} {S : Store} {H H' : Hp} (sr : SR G m S H) (e : Ext0 m H m' H') : ∀ {ws : List (List Key × V)} {kvs : List (List Key × D)}, DctR G m H ws kvs → DctR G m' H' ws kvs
  | _, _, .nil => .nil
  | _, _, .cons a r => .cons (a.mono0 sr e) (DctR.mono0 sr e r)
theorem DctR.mono {G : Gr} {m m' : Mp} {S : Store} {H H' : Hp} (sr : SR G m S H) (e : Ext m H m' H') {ws : List (List Key × V)} {kvs : List (List Key × D)} (r : DctR G m H ws kvs) : DctR G m' H' ws kvs := r.mono0 sr e.to0
theorem DctR.length {G : Gr} {m : Mp} {H : Hp} : ∀ {ws : List (List Key × V)} {kvs : List (List Key × D)}, DctR G m H ws kvs → ws.length = kvs.length
  | _, _, .nil => rfl
  | _, _, .cons _ r => by simp [DctR.length r]
theorem RepAll.length {G : Gr} {m : Mp} {H : Hp} : ∀ {xs : List V} {ds : List D}, RepAll G m H xs ds → xs.length = ds.length
  | _, _, .nil => rfl
  | _, _, .cons _ r => by simp [RepAll.length r]
theorem RepAll.get {G : Gr} {m : Mp} {H : Hp} : ∀ {xs : List V} {ds : List D} {i : Nat} {d : D}, RepAll G m H xs ds → ds[i]? = some d → ∃ v, xs[i]? = some v ∧ Rep G m H v d
  | _, _, 0, _, .cons a _, e => by simp at e; subst e; exact ⟨_, rfl, a⟩
  | _, _, i + 1, _, .cons _ r, e => by
    obtain ⟨v, h1, h2⟩ := RepAll.get (i := i) r (by simpa using e)
    exact ⟨v, by simpa using h1, h2⟩
theorem RepAll.getV {G : Gr} {m : Mp} {H : Hp} : ∀ {xs : List V} {ds : List D} {i : Nat} {v : V}, RepAll G m H xs ds → xs[i]? = some v → ∃ d, ds[i]? = some d ∧ Rep G m H v d
  | _, _, 0, _, .cons a _, e => by simp at e; subst e; exact ⟨_, rfl, a⟩
  | _, _, i + 1, _, .cons _ r, e => by
    obtain ⟨v, h1, h2⟩ := RepAll.getV (i := i) r (by simpa using e)
    exact ⟨v, by simpa using h1, h2⟩
theorem RepAll.append {G : Gr} {m : Mp} {H : Hp} : ∀ {xs ys : List V} {ds es : List D}, RepAll G m H xs ds → RepAll G m H ys es → RepAll G m H (xs ++ ys) (ds ++ es)
  | _, _, _, _, .nil, s => s
  | _, _, _, _, .cons a r, s => .cons a (RepAll.append r s)
theorem RepAll.take {G : Gr} {m : Mp} {H : Hp} : ∀ {xs : List V} {ds : List D} (n : Nat), RepAll G m H xs ds → RepAll G m H (xs.take n) (ds.take n)
  | _, _, 0, _ => .nil
  | _, _, _ + 1, .nil => .nil
  | _, _, n + 1, .cons a r => .cons a (RepAll.take n r)
theorem RepAll.drop {G : Gr} {m : Mp} {H : Hp} : ∀ {xs : List V} {ds : List D} (n : Nat), RepAll G m H xs ds → RepAll G m H (xs.drop n) (ds.drop n)
  | _, _, 0, r => r
  | _, _, _ + 1, .nil => .nil
  | _, _, n + 1, .cons _ r => RepAll.drop n r
theorem RepAll.set {G : Gr} {m : Mp} {H : Hp} {v : V} {d : D} (q : Rep G m H v d) : ∀ {xs : List V} {ds : List D} (n : Nat), RepAll G m H xs ds → RepAll G m H (xs.set n v) (ds.set n d)
  | _, _, _, .nil => .nil
  | _, _, 0, .cons _ r => .cons q r
  | _, _, n + 1, .cons a r => .cons a (RepAll.set q n r)
theorem RepAll.reverse {G : Gr} {m : Mp} {H : Hp} : ∀ {xs : List V} {ds : List D}, RepAll G m H xs ds → RepAll G m H xs.reverse ds.reverse
  | _, _, .nil => .nil
  | _, _, .cons a r => by rw [List.reverse_cons, List.reverse_cons]; exact (RepAll.reverse r).append (.cons a .nil)

/-- the frame's names -/
structure EnvR (G : Gr) (m : Mp) (H : Hp) (σ : L2.St) (τ : Env) : Prop where
  len : σ.length = τ.length
  at_ : ∀ (i : Nat) d, τ[i]? = some (some d) → ∃ v, σ[i]? = some (some v) ∧ Rep G m H v d
theorem EnvR.mono0 {G : Gr} {m m' : Mp} {S : Store} {H H' : Hp} {σ : L2.St} {τ : Env} (sr : SR G m S H) (e : Ext0 m H m' H') (r : EnvR G m H σ τ) : EnvR G m' H' σ τ :=
  ⟨r.len, fun i d h => let ⟨v, h1, h2⟩ := r.at_ i d h; ⟨v, h1, h2.mono0 sr e⟩⟩
theorem EnvR.mono {G : Gr} {m m' : Mp} {S : Store} {H H' : Hp} {σ : L2.St} {τ : Env} (sr : SR G m S H) (e : Ext m H m' H') (r : EnvR G m H σ τ) : EnvR G m' H' σ τ :=
  ⟨r.len, fun i d h => let ⟨v, h1, h2⟩ := r.at_ i d h; ⟨v, h1, h2.mono sr e⟩⟩
theorem EnvR.set {G : Gr} {m : Mp} {H : Hp} {σ : L2.St} {τ : Env} {v : V} {d : D} (r : EnvR G m H σ τ) (q : Rep G m H v d) (i : Nat) : EnvR G m H (σ.set i (some v)) (τ.set i (some d)) := by
  refine ⟨by simp [r.len], fun j d' h => ?_⟩
  by_cases hj : i = j
  · subst hj
    by_cases hl : i < τ.length
    · rw [List.getElem?_set_self hl] at h
      cases h
      exact ⟨v, by rw [List.getElem?_set_self (by rw [r.len]; exact hl)], q⟩
    · rw [List.getElem?_eq_none (by simpa using hl)] at h; cases h
  · rw [List.getElem?_set_ne hj] at h
    obtain ⟨w, h1, h2⟩ := r.at_ j d' h
    exact ⟨w, by rw [List.getElem?_set_ne hj]; exact h1, h2⟩
theorem EnvR.unset {G : Gr} {m : Mp} {H : Hp} {σ : L2.St} {τ : Env} (r : EnvR G m H σ τ) (i : Nat) : EnvR G m H (σ.set i none) (τ.set i none) := by
  refine ⟨by simp [r.len], fun j d' h => ?_⟩
  by_cases hj : i = j
  · subst hj
    by_cases hl : i < τ.length
    · rw [List.getElem?_set_self hl] at h; cases h
    · rw [List.getElem?_eq_none (by simpa using hl)] at h; cases h
  · rw [List.getElem?_set_ne hj] at h
    obtain ⟨w, h1, h2⟩ := r.at_ j d' h
    exact ⟨w, by rw [List.getElem?_set_ne hj]; exact h1, h2⟩

/-! ### new things -/
section
variable {G : Gr} {m : Mp} {S : Store} {H : Hp}
/-- something is laid at a free place; the store stays -/
theorem NoT.upd {p b : Addr} {o : HO} {H : Hp} (hp : NoT H p) (h : NoT (L2.upd H p o) b) : NoT H b := by
  by_cases hb : b = p
  · subst hb; exact hp
  · exact h.ne (upd_ne hb)
theorem Ext.upd {p : Addr} {o : HO} (sr : SR G m S H) (hp : H p = none) : Ext m H m (L2.upd H p o) :=
  ⟨Nat.le_refl _, fun _ _ _ h => h, fun n a h e => (by rw [List.getElem?_eq_none (by omega)] at e; cases e), fun b o' h _ _ => by rw [upd_ne (ne_of_none h hp)]; exact h,
   fun b h => NoT.upd (.none hp) h, rfl, fun a ha => upd_ne (fun z => sr.notNone hp (by rw [← z]; exact .inr ha))⟩
theorem SR.ext_same {H' : Hp} (sr : SR G m S H) (e : Ext m H m H') (k : ∀ a, Live m a → H' a = H a) (tb : LamX.Tabs G.T H') : SR G m S H' := by
  refine ⟨sr.len, sr.inj, fun n a o h1 h2 => ?_, tb, sr.dead, fun a ha => ⟨by rw [k a (.inr ha)]; exact (sr.hidt a ha).1, (sr.hidt a ha).2⟩⟩
  have z := sr.at_ n a o h1 h2
  cases o with
  | dead => exact z.elim
  | lst ds => obtain ⟨xs, h, r⟩ := z; exact ⟨xs, (k a (.inl ⟨n, h1⟩)).trans h, r.mono sr e⟩
  | dct kvs => obtain ⟨xs, h, r⟩ := z; exact ⟨xs, (k a (.inl ⟨n, h1⟩)).trans h, r.mono sr e⟩
theorem SR.upd {p : Addr} {o : HO} (sr : SR G m S H) (hp : H p = none) : SR G m S (L2.upd H p o) :=
  sr.ext_same (Ext.upd sr hp) (fun a l => upd_ne (fun z => sr.notNone hp (z ▸ l))) (sr.tabs.ext fun b o e => (upd_ne (ne_of_none e hp)).trans e)
/-- a new object of the store -/
theorem get_snoc {α : Type} {l : List α} {x : α} {n : Nat} {y : α} (h : (l ++ [x])[n]? = some y) : l[n]? = some y ∨ (n = l.length ∧ y = x) := by
  by_cases hl : n < l.length
  · rw [List.getElem?_append_left hl] at h; exact .inl h
  · rw [List.getElem?_append_right (by omega)] at h
    have : n - l.length = 0 := by
      cases q : n - l.length with
      | zero => rfl
      | succ k => rw [q] at h; simp at h
    rw [this] at h
    simp at h
    exact .inr ⟨by omega, h.symm⟩
def Mp.snoc (m : Mp) (p : Addr) : Mp := ⟨m.sl ++ [some p], m.hid⟩
def Mp.kill (m : Mp) (n : Nat) : Mp := ⟨m.sl.set n none, m.hid⟩
theorem Ext.obj {p : Addr} {o : HO} (sr : SR G m S H) (hp : H p = none) : Ext m H (m.snoc p) (L2.upd H p o) where
  len := by simp [Mp.snoc]
  old := fun n a hn h => by
    have h : (m.sl ++ [some p])[n]? = _ := h
    rw [List.getElem?_append_left hn] at h; exact h
  new := fun n a hn h => by
    rcases get_snoc h with h | ⟨_, h⟩
    · rw [List.getElem?_eq_none (by omega)] at h; cases h
    · cases h; exact .none hp
  keep := fun b o' h _ _ => by rw [upd_ne (ne_of_none h hp)]; exact h
  there := fun b h => (Ext.upd (o := o) sr hp).there b h
  hid := rfl
  hidk := fun a ha => upd_ne (fun z => sr.notNone hp (by rw [← z]; exact .inr ha))
/-- what an object is, by its content -/
def ObV (G : Gr) (m : Mp) (H : Hp) (u : HO) : Ob → Prop
  | .dead => False
  | .lst ds => ∃ xs, u = .lst xs ∧ RepAll G m H xs ds
  | .dct kvs => ∃ ws, u = .dT ws ∧ DctR G m H ws kvs
theorem ObV.mono {m' : Mp} {H' : Hp} {u : HO} {ob : Ob} (sr : SR G m S H) (e : Ext m H m' H') (r : ObV G m H u ob) : ObV G m' H' u ob := by
  cases ob with
  | dead => exact r.elim
  | lst ds => obtain ⟨xs, rfl, q⟩ := r; exact ⟨xs, rfl, q.mono sr e⟩
  | dct kvs => obtain ⟨xs, rfl, q⟩ := r; exact ⟨xs, rfl, q.mono sr e⟩
theorem ObV.obR {a : Addr} {u : HO} {ob : Ob} (r : ObV G m H u ob) (h : H a = some u) : ObR G m H a ob := by
  cases ob with
  | dead => exact r.elim
  | lst ds => obtain ⟨xs, rfl, q⟩ := r; exact ⟨xs, h, q⟩
  | dct kvs => obtain ⟨xs, rfl, q⟩ := r; exact ⟨xs, h, q⟩
theorem SR.objG {p : Addr} {u : HO} {ob : Ob} (sr : SR G m S H) (hp : H p = none) (r : ObV G m H u ob) : SR G (m.snoc p) (S ++ [ob]) (L2.upd H p u) := by
  have e : Ext m H (m.snoc p) (L2.upd H p u) := Ext.obj sr hp
  refine ⟨by simp [sr.len, Mp.snoc], fun i j a h1 h2 => ?_, fun n a o h1 h2 => ?_, sr.tabs.ext fun b o e => (upd_ne (ne_of_none e hp)).trans e, fun n h => ?_, fun a ha => ⟨?_, fun n h => ?_⟩⟩
  · rcases get_snoc h1 with h1 | ⟨e1, h1⟩ <;> rcases get_snoc h2 with h2 | ⟨e2, h2⟩
    · exact sr.inj i j a h1 h2
    · cases h2; exact absurd (.inl ⟨i, h1⟩) (sr.notNone hp)
    · cases h1; exact absurd (.inl ⟨j, h2⟩) (sr.notNone hp)
    · omega
  · rcases get_snoc h1 with h1 | ⟨e1, h1⟩
    · have hl : n < S.length := by rw [sr.len]; exact (List.getElem?_eq_some_iff.mp h1).1
      rw [List.getElem?_append_left hl] at h2
      have z := sr.at_ n a o h1 h2
      have na : a ≠ p := fun z => sr.notNone hp (z ▸ .inl ⟨n, h1⟩)
      cases o with
      | dead => exact z.elim
      | lst es => obtain ⟨ys, h, q⟩ := z; exact ⟨ys, (upd_ne na).trans h, q.mono sr e⟩
      | dct kvs => obtain ⟨ys, h, q⟩ := z; exact ⟨ys, (upd_ne na).trans h, q.mono sr e⟩
    · cases h1
      rw [e1, ← sr.len, List.getElem?_append_right (Nat.le_refl _)] at h2
      simp at h2
      subst h2
      exact (r.mono sr e).obR upd_same
  · rcases get_snoc h with h | ⟨_, h⟩
    · have hl : n < S.length := by rw [sr.len]; exact (List.getElem?_eq_some_iff.mp h).1
      rw [List.getElem?_append_left hl]
      exact sr.dead n h
    · cases h
  · have ha : a ∈ m.hid := ha
    rw [upd_ne (fun z => sr.notNone hp (by rw [← z]; exact .inr ha))]
    exact (sr.hidt a ha).1
  · rcases get_snoc h with h | ⟨_, h⟩
    · exact (sr.hidt a ha).2 n h
    · cases h; exact sr.notNone hp (.inr ha)
theorem SR.obj {p : Addr} {xs : List V} {ds : List D} (sr : SR G m S H) (hp : H p = none) (r : RepAll G m H xs ds) : SR G (m.snoc p) (S ++ [.lst ds]) (L2.upd H p (.lst xs)) := sr.objG hp ⟨xs, rfl, r⟩
theorem rep_obj {p : Addr} {H' : Hp} : Rep G (m.snoc p) H' (.ref p) (.obj m.sl.length) := .obj (by simp [Mp.snoc]) (fun a' h => by simp [Mp.snoc] at h; exact h.symm)
/-- a list of the store is written -/
theorem Ext.write {n : Nat} {a : Addr} {o : HO} (sr : SR G m S H) (h : m.sl[n]? = some (some a)) (ht : ∀ ps, o ≠ .tbl ps := by intro ps z; cases z) : Ext m H m (L2.upd H a o) :=
  ⟨Nat.le_refl _, fun _ _ _ h => h, fun i b hi e => (by rw [List.getElem?_eq_none (by omega)] at e; cases e), fun b o' hb nl _ => (by rw [upd_ne (fun z => nl (by rw [z]; exact .inl ⟨n, h⟩))]; exact hb),
   fun b hb => (by
    by_cases e : b = a
    · subst e
      obtain ⟨zs, hz, _⟩ := sr.tracked (.inl ⟨n, h⟩)
      obtain ⟨ps, z⟩ := hb o upd_same
      exact absurd z (ht ps)
    · exact hb.ne (upd_ne e)), rfl, fun b hb => upd_ne (fun z => (sr.hidt b hb).2 n (by rw [z]; exact h))⟩
theorem SR.writeG {n : Nat} {a : Addr} {u : HO} {ob : Ob} (sr : SR G m S H) (h : m.sl[n]? = some (some a)) (r : ObV G m H u ob) (ht : ∀ ps, u ≠ .tbl ps) : SR G m (S.set n ob) (L2.upd H a u) := by
  have e : Ext m H m (L2.upd H a u) := Ext.write sr h ht
  obtain ⟨zs, hz, hz2⟩ := sr.tracked (.inl ⟨n, h⟩)
  refine ⟨by simp [sr.len], sr.inj, fun i b o h1 h2 => ?_, tabs_but sr.tabs fun b o hb nl => (upd_ne (fun z => nl (by rw [z, hz] at hb; exact Option.some.inj hb ▸ hz2))).trans hb, fun i hi => (by
    rw [List.getElem?_set_ne (by rintro rfl; rw [h] at hi; cases hi)]
    exact sr.dead i hi), fun b hb => ⟨by rw [e.hidk b hb]; exact (sr.hidt b hb).1, (sr.hidt b hb).2⟩⟩
  by_cases hi : n = i
  · subst hi
    rw [h] at h1; cases h1
    have hl : n < S.length := by rw [sr.len]; exact (List.getElem?_eq_some_iff.mp h).1
    rw [List.getElem?_set_self hl] at h2
    cases h2
    exact (r.mono sr e).obR upd_same
  · rw [List.getElem?_set_ne hi] at h2
    have z := sr.at_ i b o h1 h2
    have nb : b ≠ a := fun z => hi (sr.inj n i a h (z ▸ h1))
    cases o with
    | dead => exact z.elim
    | lst es => obtain ⟨ys, h, q⟩ := z; exact ⟨ys, (upd_ne nb).trans h, q.mono sr e⟩
    | dct kvs => obtain ⟨ys, h, q⟩ := z; exact ⟨ys, (upd_ne nb).trans h, q.mono sr e⟩
theorem SR.write {n : Nat} {a : Addr} {xs : List V} {ds : List D} (sr : SR G m S H) (h : m.sl[n]? = some (some a)) (r : RepAll G m H xs ds) : SR G m (S.set n (.lst ds)) (L2.upd H a (.lst xs)) := sr.writeG h ⟨xs, rfl, r⟩ (fun _ z => nomatch z)
/-- a list of the store is told as a value; its place is dead from then on -/
theorem Ext.frozen {n : Nat} : Ext m H (m.kill n) H where
  len := by simp [Mp.kill]
  old := fun i a hi h => by
    have h : (m.sl.set n none)[i]? = _ := h
    by_cases e : n = i
    · subst e; rw [List.getElem?_set_self (by simpa using hi)] at h; cases h
    · rw [List.getElem?_set_ne e] at h; exact h
  new := fun i a hi h => by
    have h : (m.sl.set n none)[i]? = _ := h
    rw [List.getElem?_eq_none (by simpa using hi)] at h; cases h
  keep := fun _ _ h _ _ => h
  there := fun _ h => h
  hid := rfl
  hidk := fun _ _ => rfl
theorem kill_back {n i : Nat} {a : Addr} (h : (m.kill n).sl[i]? = some (some a)) : i ≠ n ∧ m.sl[i]? = some (some a) := by
  have h : (m.sl.set n none)[i]? = _ := h
  by_cases e : n = i
  · subst e
    by_cases hl : n < m.sl.length
    · rw [List.getElem?_set_self hl] at h; cases h
    · rw [List.getElem?_eq_none (by simpa using hl)] at h; cases h
  · rw [List.getElem?_set_ne e] at h; exact ⟨fun z => e z.symm, h⟩
theorem SR.frozen {n : Nat} (sr : SR G m S H) : SR G (m.kill n) (S.set n .dead) H := by
  refine ⟨by simp [sr.len, Mp.kill], fun i j a h1 h2 => sr.inj i j a (kill_back h1).2 (kill_back h2).2, fun i a o h1 h2 => ?_, sr.tabs, fun i hi => ?_, fun a ha => ⟨(sr.hidt a ha).1, fun i h => (sr.hidt a ha).2 i (kill_back h).2⟩⟩
  · obtain ⟨ne, h1⟩ := kill_back h1
    rw [List.getElem?_set_ne (Ne.symm ne)] at h2
    have z := sr.at_ i a o h1 h2
    cases o with
    | dead => exact z.elim
    | lst es => obtain ⟨ys, h, q⟩ := z; exact ⟨ys, h, q.mono sr Ext.frozen⟩
    | dct kvs => obtain ⟨ys, h, q⟩ := z; exact ⟨ys, h, q.mono sr Ext.frozen⟩
  · have hi : (m.sl.set n none)[i]? = _ := hi
    by_cases e : n = i
    · subst e
      by_cases hl : n < S.length
      · rw [List.getElem?_set_self hl]
      · rw [List.getElem?_eq_none (by simp; rw [← sr.len]; omega)] at hi; cases hi
    · rw [List.getElem?_set_ne e] at hi ⊢
      exact sr.dead i hi
theorem rep_frozen {n : Nat} {a : Addr} {ds : List D} (sr : SR G m S H) (h : m.sl[n]? = some (some a)) (hs : S[n]? = some (.lst ds)) : Rep G (m.kill n) H (.ref a) (.lst ds) := by
  obtain ⟨xs, hx, r⟩ := sr.at_ n a _ h hs
  refine .lst (.inl hx) (fun l => ?_) (r.mono sr Ext.frozen)
  rcases l with ⟨i, hi⟩ | hi
  · obtain ⟨ne, h1⟩ := kill_back hi
    exact ne (sr.inj n i a h h1).symm
  · exact (sr.hidt a hi).2 n h
/-! a list that a comprehension fills -/
def Mp.hide (m : Mp) (p : Addr) : Mp := ⟨m.sl, p :: m.hid⟩
def Mp.hidAs (m : Mp) (l : List Addr) : Mp := ⟨m.sl, l⟩
theorem Ext0.hide {p : Addr} {o : HO} (hp : H p = none) : Ext0 m H (m.hide p) (L2.upd H p o) := by
  refine ⟨Nat.le_refl _, fun _ _ _ h => h, fun b o' h _ _ => (upd_ne (ne_of_none h hp)).trans h, fun b o' h n _ l => n ?_⟩
  rcases l with l | l
  · exact .inl l
  · rcases List.mem_cons.mp l with z | l
    · rw [z, hp] at h; cases h
    · exact .inr l
theorem SR.hide {p : Addr} (sr : SR G m S H) (hp : H p = none) : SR G (m.hide p) S (L2.upd H p (.lst [])) := by
  refine ⟨sr.len, sr.inj, fun n a o h1 h2 => ?_, sr.tabs.ext fun b o e => (upd_ne (ne_of_none e hp)).trans e, sr.dead, fun a ha => ?_⟩
  · have h1 : m.sl[n]? = some (some a) := h1
    have na : a ≠ p := fun z => sr.notNone hp (z ▸ .inl ⟨n, h1⟩)
    have z := sr.at_ n a o h1 h2
    cases o with
    | dead => exact z.elim
    | lst es => obtain ⟨ys, h, q⟩ := z; exact ⟨ys, (upd_ne na).trans h, q.mono0 sr (Ext0.hide hp)⟩
    | dct kvs => obtain ⟨ys, h, q⟩ := z; exact ⟨ys, (upd_ne na).trans h, q.mono0 sr (Ext0.hide hp)⟩
  · rcases List.mem_cons.mp ha with rfl | ha
    · exact ⟨⟨[], upd_same⟩, fun n h => sr.notNone hp (.inl ⟨n, h⟩)⟩
    · rw [upd_ne (fun z => sr.notNone hp (by rw [← z]; exact .inr ha))]
      exact sr.hidt a ha
/-- a hidden list is filled -/
theorem Ext0.fill {p : Addr} {o : HO} (hp : p ∈ m.hid) : Ext0 m H m (L2.upd H p o) :=
  ⟨Nat.le_refl _, fun _ _ _ h => h, fun b o' h n _ => (upd_ne (fun z => n (by rw [z]; exact .inr hp))).trans h, fun _ _ _ n _ => n⟩
theorem SR.fill {p : Addr} {xs : List V} (sr : SR G m S H) (hp : p ∈ m.hid) : SR G m S (L2.upd H p (.lst xs)) := by
  obtain ⟨⟨zs, hz⟩, ns⟩ := sr.hidt p hp
  refine ⟨sr.len, sr.inj, fun n a o h1 h2 => ?_, tabs_but sr.tabs fun b o hb nl => (upd_ne (fun z => nl (by rw [z, hz] at hb; exact Option.some.inj hb ▸ .inl ⟨zs, rfl⟩))).trans hb, sr.dead, fun a ha => ?_⟩
  · have na : a ≠ p := fun z => ns n (z ▸ h1)
    have z := sr.at_ n a o h1 h2
    cases o with
    | dead => exact z.elim
    | lst es => obtain ⟨ys, h, q⟩ := z; exact ⟨ys, (upd_ne na).trans h, q.mono0 sr (Ext0.fill hp)⟩
    | dct kvs => obtain ⟨ys, h, q⟩ := z; exact ⟨ys, (upd_ne na).trans h, q.mono0 sr (Ext0.fill hp)⟩
  · by_cases e : a = p
    · subst e; exact ⟨⟨xs, upd_same⟩, ns⟩
    · rw [upd_ne e]; exact sr.hidt a ha
section
variable {m0 m1 m2 : Mp} {H0 H1 H2 : Hp} {p : Addr}
/-- seen from outside: a step with the hidden list at p -/
theorem Ext.outer (a : Ext m0 H0 (m1.hidAs m0.hid) H1) (hp : H0 p = none) (hh : m1.hid = p :: m0.hid) (b : Ext m1 H1 m2 H2) : Ext m0 H0 (m2.hidAs m0.hid) H2 where
  len := Nat.le_trans a.len b.len
  old := fun n x hn h => a.old n x hn (b.old n x (Nat.lt_of_lt_of_le hn a.len) h)
  new := fun n x hn h => by
    by_cases hl : n < m1.sl.length
    · exact a.new n x hn (b.old n x hl h)
    · exact a.there x (b.new n x (by omega) h)
  keep := fun x o h n t => b.keep x o (a.keep x o h n t) (fun l => by
    rcases l with l | l
    · exact a.notLive h n t (.inl l)
    · rw [hh] at l
      rcases List.mem_cons.mp l with z | l
      · rw [z, hp] at h; cases h
      · exact n (.inr l)) t
  there := fun x h => a.there x (b.there x h)
  hid := rfl
  hidk := fun x hx => (b.hidk x (by rw [hh]; exact List.mem_cons_of_mem _ hx)).trans (a.hidk x hx)
theorem Ext.outerFill {o : HO} {S0 : Store} (sr : SR G m0 S0 H0) (a : Ext m0 H0 (m1.hidAs m0.hid) H1) (hp : H0 p = none) : Ext m0 H0 (m1.hidAs m0.hid) (L2.upd H1 p o) where
  len := a.len
  old := a.old
  new := a.new
  keep := fun x o h n t => (upd_ne (ne_of_none h hp)).trans (a.keep x o h n t)
  there := fun x h => by
    by_cases e : x = p
    · subst e; exact .none hp
    · exact a.there x (h.ne (upd_ne e))
  hid := rfl
  hidk := fun x hx => (upd_ne (fun z => sr.notNone hp (by rw [← z]; exact .inr hx))).trans (a.hidk x hx)
/-- the comprehension's end: its list is a value -/
theorem Ext0.unhide {l : List Addr} (hh : m.hid = p :: l) : Ext0 m H (m.hidAs l) H :=
  ⟨Nat.le_refl _, fun _ _ _ h => h, fun _ _ h _ _ => h, fun b _ _ n _ q => n (by
    rcases q with q | q
    · exact .inl q
    · exact .inr (by rw [hh]; exact List.mem_cons_of_mem _ q))⟩
theorem SR.unhide {l : List Addr} (sr : SR G m S H) (hh : m.hid = p :: l) : SR G (m.hidAs l) S H := by
  refine ⟨sr.len, sr.inj, fun n a o h1 h2 => ?_, sr.tabs, sr.dead, fun a ha => sr.hidt a (by rw [hh]; exact List.mem_cons_of_mem _ ha)⟩
  have z := sr.at_ n a o h1 h2
  cases o with
  | dead => exact z.elim
  | lst es => obtain ⟨ys, h, q⟩ := z; exact ⟨ys, h, q.mono0 sr (Ext0.unhide hh)⟩
  | dct kvs => obtain ⟨ys, h, q⟩ := z; exact ⟨ys, h, q.mono0 sr (Ext0.unhide hh)⟩
theorem rep_unhide {l : List Addr} {xs : List V} {ds : List D} (sr : SR G m S H) (hh : m.hid = p :: l) (hl : p ∉ l) (h : H p = some (.lst xs)) (r : RepAll G m H xs ds) : Rep G (m.hidAs l) H (.ref p) (.lst ds) := by
  refine .lst (.inl h) (fun q => ?_) (r.mono0 sr (Ext0.unhide hh))
  rcases q with ⟨n, q⟩ | q
  · exact (sr.hidt p (by rw [hh]; exact List.mem_cons_self)).2 n q
  · exact hl q
/-- .. or an object of the store -/
theorem Ext.toStore {l : List Addr} (a : Ext m0 H0 (m1.hidAs m0.hid) H1) (hp : H0 p = none) : Ext m0 H0 ((m1.hidAs m0.hid).snoc p) H1 where
  len := by
    have := a.len
    simp only [Mp.snoc, List.length_append, List.length_cons, List.length_nil]
    omega
  old := fun n x hn h => by
    have h : ((m1.hidAs m0.hid).sl ++ [some p])[n]? = _ := h
    rw [List.getElem?_append_left (Nat.lt_of_lt_of_le hn a.len)] at h
    exact a.old n x hn h
  new := fun n x hn h => by
    rcases get_snoc h with h | ⟨_, h⟩
    · exact a.new n x hn h
    · cases h; exact .none hp
  keep := a.keep
  there := a.there
  hid := rfl
  hidk := a.hidk
theorem SR.toStore {l : List Addr} {xs : List V} {ds : List D} (sr : SR G m S H) (hh : m.hid = p :: l) (hl : p ∉ l) (h : H p = some (.lst xs)) (r : RepAll G m H xs ds) : SR G ((m.hidAs l).snoc p) (S ++ [.lst ds]) H := by
  have np := (sr.hidt p (by rw [hh]; exact List.mem_cons_self)).2
  have e0 : Ext0 m H ((m.hidAs l).snoc p) H := by
    refine ⟨by simp [Mp.snoc, Mp.hidAs], fun n a hn q => ?_, fun _ _ h _ _ => h, fun b o hb n _ q => n ?_⟩
    · have q : (m.sl ++ [some p])[n]? = _ := q
      rw [List.getElem?_append_left hn] at q; exact q
    · rcases q with ⟨i, q⟩ | q
      · rcases get_snoc q with q | ⟨_, q⟩
        · exact .inl ⟨i, q⟩
        · cases q; exact .inr (by rw [hh]; exact List.mem_cons_self)
      · exact .inr (by rw [hh]; exact List.mem_cons_of_mem _ q)
  refine ⟨by simp [sr.len, Mp.snoc, Mp.hidAs], fun i j a h1 h2 => ?_, fun n a o h1 h2 => ?_, sr.tabs, fun n q => ?_, fun a ha => ⟨(sr.hidt a (by rw [hh]; exact List.mem_cons_of_mem _ ha)).1, fun n q => ?_⟩⟩
  · rcases get_snoc h1 with h1 | ⟨e1, h1⟩ <;> rcases get_snoc h2 with h2 | ⟨e2, h2⟩
    · exact sr.inj i j a h1 h2
    · cases h2; exact absurd h1 (np i)
    · cases h1; exact absurd h2 (np j)
    · omega
  · rcases get_snoc h1 with h1 | ⟨e1, h1⟩
    · have h1 : m.sl[n]? = _ := h1
      have hl' : n < S.length := by rw [sr.len]; exact (List.getElem?_eq_some_iff.mp h1).1
      rw [List.getElem?_append_left hl'] at h2
      have z := sr.at_ n a o h1 h2
      cases o with
      | dead => exact z.elim
      | lst es => obtain ⟨ys, h, q⟩ := z; exact ⟨ys, h, q.mono0 sr e0⟩
      | dct kvs => obtain ⟨ys, h, q⟩ := z; exact ⟨ys, h, q.mono0 sr e0⟩
    · cases h1
      have e1 : n = m.sl.length := e1
      rw [e1, ← sr.len, List.getElem?_append_right (Nat.le_refl _)] at h2
      simp at h2
      subst h2
      exact ⟨xs, h, r.mono0 sr e0⟩
  · rcases get_snoc q with q | ⟨_, q⟩
    · have q : m.sl[n]? = _ := q
      have hl' : n < S.length := by rw [sr.len]; exact (List.getElem?_eq_some_iff.mp q).1
      rw [List.getElem?_append_left hl']
      exact sr.dead n q
    · cases q
  · rcases get_snoc q with q | ⟨_, q⟩
    · exact (sr.hidt a (by rw [hh]; exact List.mem_cons_of_mem _ ha)).2 n q
    · cases q; exact hl ha
end
end
end Dx

set_option Elab.async false
set_option linter.all false
set_option maxRecDepth 100000
set_option maxHeartbeats 4000000
/-! DX, part 2: readings over plain data; operators. -/
namespace Dx
open PySem PySem.Spec PyProof.Rows L2

abbrev QX := Ex → Store → Prop
abbrev FG (β : Type) := Env → Store → (β → Store → Prop) → QX → Prop
abbrev F := FG D
def bindF {β γ : Type} (f : FG β) (g : β → FG γ) : FG γ := fun τ S Q E => f τ S (fun x S1 => g x τ S1 Q E) E
def retF {β : Type} (x : β) : FG β := fun _ S Q _ => Q x S
/-- a partial function's answer -/
def optF {β : Type} (o : Store → Option β) : FG β := fun _ S Q _ => match o S with
  | some d => Q d S
  | none => False

/-- the fields of an exception -/
def FldsR (G : Gr) (m : Mp) (H : Hp) : List (Str × V) → List (Str × D) → Prop
  | [], [] => True
  | (x, v) :: r, (y, d) :: s => x = y ∧ Rep G m H v d ∧ FldsR G m H r s
  | _, _ => False
structure RepX (G : Gr) (m : Mp) (H : Hp) (cls : Value) (dd : Option Addr) (ex : Ex) : Prop where
  cls : ∃ C, G.mg ex.cls = some (.ref C) ∧ cls = .ref C
  fs : ex.fs = [] ∨ ∃ da fs, dd = some da ∧ H da = some (.xd fs) ∧ FldsR G m H fs ex.fs

section
variable (G : Gr)
abbrev Rl (α β : Type) := Mp → Hp → α → β → Prop
def PostG {α β : Type} (ρ : Rl α β) (m : Mp) (H : Hp) (QD : β → Store → Prop) (Q : α → Hp → Prop) : Prop :=
  ∀ (m' : Mp) (S' : Store) (H' : Hp) (v : α) (d : β), Ext m H m' H' → SR G m' S' H' → ρ m' H' v d → QD d S' → Q v H'
def PostX (m : Mp) (H : Hp) (QE : QX) (σ : L2.St) (W : WX) : Prop :=
  ∀ (m' : Mp) (S' : Store) (H' : Hp) (cls : Value) (dd : Option Addr) (ex : Ex), Ext m H m' H' → SR G m' S' H' → RepX G m' H' cls dd ex → QE ex S' → W cls dd σ H'
def At {α β : Type} (ρ : Rl α β) (W : WX) (f : FG β) (τ : Env) (m : Mp) (S : Store) (σ : L2.St) (H : Hp) (Q : α → Hp → Prop) : Prop :=
  ∃ QD QE, SR G m S H ∧ EnvR G m H σ τ ∧ f τ S QD QE ∧ PostG G ρ m H QD Q ∧ PostX G m H QE σ W
abbrev rV : Rl V D := fun m H v d => Rep G m H v d
abbrev rB : Rl Bool Bool := fun _ _ v d => v = d
abbrev rA : Rl (List V) (List D) := fun m H v d => RepAll G m H v d
abbrev rO : Rl (Option Int) (Option Int) := fun _ _ v d => v = d
def tE (W : WX) (f : F) : TE := fun σ H Q => ∃ τ m S, At G (rV G) W f τ m S σ H Q
def tT (W : WX) (f : FG Bool) : TT := fun σ H Q => ∃ τ m S, At G rB W f τ m S σ H Q
def tA (W : WX) (f : FG (List D)) : TA := fun σ H Q => ∃ τ m S, At G (rA G) W f τ m S σ H Q
def tO (W : WX) (f : FG (Option Int)) : TO := fun σ H Q => ∃ τ m S, At G rO W f τ m S σ H Q
end

section
variable {G : Gr} {W : WX} {α β γ δ : Type} {τ : Env} {m m' : Mp} {S S' : Store} {σ : L2.St} {H H' : Hp}
theorem PostG.mono {ρ : Rl α β} {QD : β → Store → Prop} {Q : α → Hp → Prop} (p : PostG G ρ m H QD Q) (e : Ext m H m' H') : PostG G ρ m' H' QD Q := fun m2 S2 H2 v d e2 sr r q => p m2 S2 H2 v d (e.trans e2) sr r q
theorem PostX.mono {QE : QX} (p : PostX G m H QE σ W) (e : Ext m H m' H') : PostX G m' H' QE σ W := fun m2 S2 H2 c dd ex e2 sr r q => p m2 S2 H2 c dd ex (e.trans e2) sr r q
theorem At.sr {ρ : Rl α β} {f : FG β} {Q : α → Hp → Prop} (h : At G ρ W f τ m S σ H Q) : SR G m S H := let ⟨_, _, s, _⟩ := h; s
theorem At.er {ρ : Rl α β} {f : FG β} {Q : α → Hp → Prop} (h : At G ρ W f τ m S σ H Q) : EnvR G m H σ τ := let ⟨_, _, _, s, _⟩ := h; s
/-- one thing, then another -/
theorem At.seq {ρ : Rl α β} {ρ' : Rl γ δ} {f : FG β} {g : β → FG δ} {Q : γ → Hp → Prop} {R : α → Hp → Prop} (h : At G ρ' W (bindF f g) τ m S σ H Q)
    (k : ∀ (m1 : Mp) (S1 : Store) (H1 : Hp) (v : α) (d : β), Ext m H m1 H1 → SR G m1 S1 H1 → ρ m1 H1 v d → At G ρ' W (g d) τ m1 S1 σ H1 Q → R v H1) : At G ρ W f τ m S σ H R := by
  obtain ⟨QD, QE, sr, er, hf, p, px⟩ := h
  refine ⟨fun x S1 => g x τ S1 QD QE, QE, sr, er, hf, fun m1 S1 H1 v d e sr1 r q => ?_, px⟩
  exact k m1 S1 H1 v d e sr1 r ⟨QD, QE, sr1, er.mono sr e, q, p.mono e, px.mono e⟩
/-- the answer is there -/
theorem At.fin {ρ : Rl α β} {o : Store → Option β} {Q : α → Hp → Prop} (h : At G ρ W (optF o) τ m S σ H Q) :
    ∃ d, o S = some d ∧ ∀ (m1 : Mp) (H1 : Hp) (v : α), Ext m H m1 H1 → SR G m1 S H1 → ρ m1 H1 v d → Q v H1 := by
  obtain ⟨QD, QE, sr, er, hf, p, px⟩ := h
  unfold optF at hf
  cases q : o S with
  | none => rw [q] at hf; exact hf.elim
  | some d => rw [q] at hf; exact ⟨d, rfl, fun m1 H1 v e sr1 r => p m1 S H1 v d e sr1 r hf⟩
/-- an answer, then more -/
theorem At.opt {ρ : Rl γ δ} {o : Store → Option β} {g : β → FG δ} {Q : γ → Hp → Prop} (h : At G ρ W (bindF (optF o) g) τ m S σ H Q) : ∃ d, o S = some d ∧ At G ρ W (g d) τ m S σ H Q := by
  obtain ⟨QD, QE, sr, er, hf, p, px⟩ := h
  unfold bindF optF at hf
  cases q : o S with
  | none => rw [q] at hf; exact hf.elim
  | some d => rw [q] at hf; exact ⟨d, rfl, QD, QE, sr, er, hf, p, px⟩
theorem At.ret {ρ : Rl α β} {d : β} {Q : α → Hp → Prop} (h : At G ρ W (retF d) τ m S σ H Q) : ∀ (m1 : Mp) (H1 : Hp) (v : α), Ext m H m1 H1 → SR G m1 S H1 → ρ m1 H1 v d → Q v H1 := by
  obtain ⟨QD, QE, sr, er, hf, p, px⟩ := h
  exact fun m1 H1 v e sr1 r => p m1 S H1 v d e sr1 r hf
/-- a weaker reading -/
theorem PE.imp {X : Cx} {e : Expr} {t t' : TE} (h : PE X e t) (k : ∀ σ H Q, t' σ H Q → t σ H Q) : PE X e t' := ⟨fun pins s σ H Q I q => h.run pins s σ H Q I (k σ H Q q)⟩
theorem PT.imp {X : Cx} {e : Expr} {t t' : TT} (h : PT X e t) (k : ∀ σ H Q, t' σ H Q → t σ H Q) : PT X e t' := ⟨fun pins s σ H Q I q => h.run pins s σ H Q I (k σ H Q q)⟩
theorem PW.imp {X : Cx} {e : Expr} {t t' : TT} (h : PW X e t) (k : ∀ σ H Q, t' σ H Q → t σ H Q) : PW X e t' := ⟨fun wh pins s σ H Q I q => h.run wh pins s σ H Q I (k σ H Q q)⟩
theorem PA.imp {X : Cx} {e : List Expr} {t t' : TA} (h : PA X e t) (k : ∀ σ H Q, t' σ H Q → t σ H Q) : PA X e t' := ⟨fun pos pins s σ H Q I q => h.run pos pins s σ H Q I (k σ H Q q)⟩
theorem PS.imp {X : Cx} {e : Stmt} {t t' : TS} (h : PS X e t) (k : ∀ D σ H, t' D σ H → t D σ H) : PS X e t' := ⟨fun pins s σ H D I q => h.run pins s σ H D I (k D σ H q)⟩
theorem PSs.imp {X : Cx} {e : List Stmt} {t t' : TS} (h : PSs X e t) (k : ∀ D σ H, t' D σ H → t D σ H) : PSs X e t' := ⟨fun pins s σ H D I q => h.run pins s σ H D I (k D σ H q)⟩
end

/-! ### atoms -/
def varF (i : Nat) : F := fun τ S Q _ => match τ[i]? with
  | some (some d) => Q d S
  | _ => False
section
variable {G : Gr} {X : Cx} {W : WX}
theorem e_var {i : Nat} {x : Str} {pos : Pos} (hN : X.N[i]? = some x) (hv : Vis X.env.scope x) (hd : (x == ("__debug__" : Str)) = false) (hcd : (x == ("__classdict__" : Str)) = false) : PE X (.Name x pos) (tE G W (varF i)) :=
  PE.imp (pe_var hN hv hd hcd) fun σ H Q ⟨τ, m, S, QD, QE, sr, er, hf, p, px⟩ => by
    unfold varF at hf
    split at hf
    · rename_i d hd
      obtain ⟨v, h1, h2⟩ := er.at_ i d hd
      exact ⟨v, h1, p m S H v d (Ext.refl _ _) sr h2 hf⟩
    · exact hf.elim
theorem e_const {e : Expr} {v : V} {d : D} (h : PE X e (tC v)) (r : ∀ m H, Rep G m H v d) : PE X e (tE G W (retF d)) :=
  PE.imp h fun σ H Q ⟨τ, m, S, h⟩ => h.ret m H v (Ext.refl _ _) h.sr (r m H)
end

/-! ### operators on plain data -/
def getS (S : Store) : D → D
  | .obj n => match S[n]? with
    | some (.lst ds) => .lst ds
    | _ => .obj n
  | d => d
/-- a bool counts as a number -/
def numD : D → Option Int
  | .int i => some i
  | .bl b => some (if b then 1 else 0)
  | _ => none

/-- by values: what an operator makes -/
def OpF (G : Gr) (X : Cx) (f : Value → Value → Sem Value) (g : D → D → F) : Prop :=
  ∃ r, OpR X f r ∧ ∀ (W : WX) (τ : Env) (m : Mp) (S : Store) (σ : L2.St) (H : Hp) (Q : VK) (v w : V) (x y : D), Rep G m H v x → Rep G m H w y → At G (rV G) W (g x y) τ m S σ H Q → r v w H Q
abbrev OpD (G : Gr) (X : Cx) (f : Value → Value → Sem Value) (g : D → D → Store → Option D) : Prop := OpF G X f (fun x y => optF (g x y))
theorem e_bin {G : Gr} {X : Cx} {W : WX} {a b : Expr} {op : Operator} {pos : Pos} {fa fb : F} {g : D → D → F} (ho : OpF G X (binaryOp op) g) (ha : PE X a (tE G W fa)) (hb : PE X b (tE G W fb)) :
    PE X (.BinOp a op b pos) (tE G W (bindF fa fun x => bindF fb fun y => g x y)) := by
  obtain ⟨r, hr, k⟩ := ho
  refine PE.imp (pe_op hr ha hb) fun σ H Q ⟨τ, m, S, h⟩ => ?_
  refine ⟨τ, m, S, h.seq fun m1 S1 H1 v d e1 sr1 r1 h1 => ⟨τ, m1, S1, h1.seq fun m2 S2 H2 w d' e2 sr2 r2 h2 => ?_⟩⟩
  exact k W τ m2 S2 σ H2 Q v w d d' (r1.mono sr1 e2) r2 h2
theorem e_cmp {G : Gr} {X : Cx} {W : WX} {a b : Expr} {op : CmpOp} {pos : Pos} {fa fb : F} {g : D → D → F} (ho : OpF G X (compareOp op) g) (ha : PE X a (tE G W fa)) (hb : PE X b (tE G W fb)) (hm : behindInMarks op b = false) :
    PE X (.Compare a [op] [b] pos) (tE G W (bindF fa fun x => bindF fb fun y => g x y)) := by
  obtain ⟨r, hr, k⟩ := ho
  refine PE.imp (pe_cmpR hr ha hb hm) fun σ H Q ⟨τ, m, S, h⟩ => ?_
  refine ⟨τ, m, S, h.seq fun m1 S1 H1 v d e1 sr1 r1 h1 => ⟨τ, m1, S1, h1.seq fun m2 S2 H2 w d' e2 sr2 r2 h2 => ?_⟩⟩
  exact k W τ m2 S2 σ H2 Q v w d d' (r1.mono sr1 e2) r2 h2
/-- a list that is made: a value, or an object of the store -/
def newL (mu : Bool) (ds : List D) : F := fun _ S Q _ => if mu = true then Q (.obj S.length) (S ++ [.lst ds]) else Q (.lst ds) S
theorem At.newL {G : Gr} {W : WX} {mu : Bool} {ds : List D} {τ : Env} {m : Mp} {S : Store} {σ : L2.St} {H : Hp} {Q : VK} (h : At G (rV G) W (newL mu ds) τ m S σ H Q) {p : Addr} (hp : H p = none) {xs : List V} (r : RepAll G m H xs ds) : Q (.ref p) (upd H p (.lst xs)) := by
  obtain ⟨QD, QE, sr, er, hf, k, px⟩ := h
  unfold Dx.newL at hf
  cases mu with
  | true =>
    rw [if_pos rfl] at hf
    rw [sr.len] at hf
    exact k (m.snoc p) (S ++ [.lst ds]) _ (.ref p) (.obj m.sl.length) (Ext.obj sr hp) (sr.obj hp r) rep_obj hf
  | false =>
    rw [if_neg Bool.false_ne_true] at hf
    exact k m S _ (.ref p) (.lst ds) (Ext.upd sr hp) (sr.upd hp) (.lst (.inl upd_same) (sr.notNone hp) (r.mono sr (Ext.upd sr hp))) hf
theorem At.newT {G : Gr} {W : WX} {ds : List D} {τ : Env} {m : Mp} {S : Store} {σ : L2.St} {H : Hp} {Q : VK} (h : At G (rV G) W (retF (.tup ds)) τ m S σ H Q) {p : Addr} (hp : H p = none) {xs : List V} (r : RepAll G m H xs ds) : Q (.ref p) (upd H p (.tup xs)) :=
  h.ret m _ _ (Ext.upd h.sr hp) (h.sr.upd hp) (.tup (.inl (.inl upd_same)) (r.mono h.sr (Ext.upd h.sr hp)))

/-! ints -/
def o2I (C : Int → Int → Bool) (f : Int → Int → D) : D → D → Store → Option D := fun x y _ => match x, y with
  | .int i, .int j => if C i j = true then some (f i j) else none
  | _, _ => none
theorem opd_int {G : Gr} {X : Cx} {f : Value → Value → Sem Value} {P : Int → Int → Prop} {g : Int → Int → V} {C : Int → Int → Bool} {gd : Int → Int → D} (h : OpR X f (rI P g)) (hC : ∀ i j, C i j = true → P i j) (hg : ∀ i j m H, Rep G m H (g i j) (gd i j)) : OpD G X f (o2I C gd) := by
  refine ⟨_, h, fun W τ m S σ H Q v w x y rv rw hA => ?_⟩
  obtain ⟨d, hd, k⟩ := hA.fin
  unfold o2I at hd
  split at hd
  · split at hd
    · rename_i i j hc
      cases hd
      cases rv
      cases rw
      exact ⟨_, _, rfl, rfl, hC _ _ hc, k m H _ (Ext.refl _ _) hA.sr (hg _ _ _ _)⟩
    · cases hd
  · cases hd
theorem opd_int0 {G : Gr} {X : Cx} {f : Value → Value → Sem Value} {g : Int → Int → V} {gd : Int → Int → D} (h : OpR X f (rI0 g)) (hg : ∀ i j m H, Rep G m H (g i j) (gd i j)) : OpD G X f (o2I (fun _ _ => true) gd) := by
  refine ⟨_, h, fun W τ m S σ H Q v w x y rv rw hA => ?_⟩
  obtain ⟨d, hd, k⟩ := hA.fin
  unfold o2I at hd
  split at hd
  · rw [if_pos rfl] at hd
    cases hd
    cases rv
    cases rw
    exact ⟨_, _, rfl, rfl, k m H _ (Ext.refl _ _) hA.sr (hg _ _ _ _)⟩
  · cases hd
def cMul (i j : Int) : Bool := decide (i.natAbs.log2 + j.natAbs.log2 < 1000000) || decide (-(2 ^ 64) < i ∧ i < 2 ^ 64) || decide (-(2 ^ 64) < j ∧ j < 2 ^ 64)
def cDiv (_ j : Int) : Bool := !decide (j = 0) && decide (j.natAbs.log2 < 9000)
def cPow (i j : Int) : Bool := decide (0 ≤ j) && decide (j ≤ 1000000) && decide (i.natAbs < 2 ^ 64)
section
variable {G : Gr} {X : Cx}
theorem opd_add : OpD G X (binaryOp .Add) (o2I (fun _ _ => true) fun i j => .int (i + j)) := opd_int0 op_add fun _ _ _ _ => .int _
theorem opd_sub : OpD G X (binaryOp .Sub) (o2I (fun _ _ => true) fun i j => .int (i - j)) := opd_int0 op_sub fun _ _ _ _ => .int _
theorem op_mulA : OpR X (binaryOp .Mult) (rI (fun i j => cMul i j = true) fun i j => .int (i * j)) := opI fun i j _ _ _ _ _ hc q => mul_int q (by
  unfold cMul at hc
  simp only [Bool.or_eq_true, decide_eq_true_eq] at hc
  rcases hc with (h | h) | h
  · exact CMulW.ok h
  · exact CMul.ok (.inl h)
  · exact CMul.ok (.inr h))
theorem opd_mul : OpD G X (binaryOp .Mult) (o2I cMul fun i j => .int (i * j)) := opd_int op_mulA (fun _ _ h => h) fun _ _ _ _ => .int _
theorem op_fdivA : OpR X (binaryOp .FloorDiv) (rI (fun i j => cDiv i j = true) fun i j => .int (i.fdiv j)) := opI fun i j _ _ _ _ _ hc q => by
  unfold cDiv at hc
  simp only [Bool.and_eq_true, Bool.not_eq_true', decide_eq_true_eq, decide_eq_false_iff_not] at hc
  exact floordiv_int hc.1 q (.inl (PyProof.noPylong_of_log2 hc.2))
theorem opd_fdiv : OpD G X (binaryOp .FloorDiv) (o2I cDiv fun i j => .int (i.fdiv j)) := opd_int op_fdivA (fun i j h => h) fun _ _ _ _ => .int _
theorem opd_mod : OpD G X (binaryOp .Mod) (o2I (fun _ j => !decide (j = 0)) fun i j => .int (i.fmod j)) := opd_int op_modN (fun i j h => by simpa using h) fun _ _ _ _ => .int _
theorem opd_pow : OpD G X (binaryOp .Pow) (o2I cPow fun i j => .int (i ^ j.toNat)) := opd_int op_pow (fun i j h => by
  unfold cPow at h
  simp only [Bool.and_eq_true, decide_eq_true_eq] at h
  exact ⟨h.1.1, h.1.2, h.2⟩) fun _ _ _ _ => .int _
theorem opd_shl : OpD G X (binaryOp .LShift) (o2I cPow fun i j => .int (i * 2 ^ j.toNat)) := opd_int op_shl (fun i j h => by
  unfold cPow at h
  simp only [Bool.and_eq_true, decide_eq_true_eq] at h
  exact ⟨h.1.1, h.1.2, h.2⟩) fun _ _ _ _ => .int _
theorem opd_shr : OpD G X (binaryOp .RShift) (o2I (fun _ j => decide (0 ≤ j)) fun i j => .int (i / 2 ^ j.toNat)) := opd_int op_shr (fun i j h => by simpa using h) fun _ _ _ _ => .int _
theorem opd_lt : OpD G X (compareOp .Lt) (o2I (fun _ _ => true) fun i j => .bl (decide (i < j))) := opd_int0 op_lt fun _ _ _ _ => .bl _
theorem opd_le : OpD G X (compareOp .LtE) (o2I (fun _ _ => true) fun i j => .bl (decide (i ≤ j))) := opd_int0 op_le fun _ _ _ _ => .bl _
theorem opd_gt : OpD G X (compareOp .Gt) (o2I (fun _ _ => true) fun i j => .bl (decide (j < i))) := opd_int0 op_gt fun _ _ _ _ => .bl _
theorem opd_ge : OpD G X (compareOp .GtE) (o2I (fun _ _ => true) fun i j => .bl (decide (j ≤ i))) := opd_int0 op_ge fun _ _ _ _ => .bl _
end
end Dx

set_option Elab.async false
set_option linter.all false
set_option maxRecDepth 100000
set_option maxHeartbeats 4000000
/-! DX, part 3: ==, is, in, +, * on plain data; places and slices. -/
namespace Dx
open PySem PySem.Spec PyProof.Rows L2

/-! ### plain data as the library's data -/
mutual
def toPy : D → Option PyData
  | .non => some .none
  | .bl b => some (.bool b)
  | .int i => some (.int i)
  | .str x => if PyData.canLay0 (.str x) = true then some (.str x) else none
  | .tup ds => (toPys ds).map .tuple
  | .lst ds => (toPys ds).map .list
  | .obj _ | .ty _ | .gl _ | .exv _ => none
def toPys : List D → Option (List PyData)
  | [] => some []
  | d :: ds => (toPy d).bind fun p => (toPys ds).map fun ps => p :: ps
end
mutual
/-- == -/
def eqD : D → D → Bool
  | .non, .non => true
  | .bl a, .bl b => a == b
  | .bl a, .int j => (if a then 1 else 0) == j
  | .int i, .bl b => i == (if b then 1 else 0)
  | .int i, .int j => i == j
  | .str x, .str y => x == y
  | .tup xs, .tup ys => eqDs xs ys
  | .lst xs, .lst ys => eqDs xs ys
  | _, _ => false
def eqDs : List D → List D → Bool
  | [], [] => true
  | x :: xs, y :: ys => eqD x y && eqDs xs ys
  | _, _ => false
end
mutual
def depD : D → Nat
  | .tup ds => depDs ds + 1
  | .lst ds => depDs ds + 1
  | _ => 0
def depDs : List D → Nat
  | [] => 0
  | d :: ds => max (depD d) (depDs ds)
end
mutual
/-- None, bools, ints, texts, tuples and lists of such -/
def datD : D → Bool
  | .non | .bl _ | .int _ => true
  | .str x => PyData.canLay0 (.str x)
  | .tup ds | .lst ds => datDs ds
  | .obj _ | .ty _ | .gl _ | .exv _ => false
def datDs : List D → Bool
  | [] => true
  | d :: ds => datD d && datDs ds
end
mutual
theorem toPy_some : ∀ (d : D), datD d = true → ∃ p, toPy d = some p ∧ p.canLay0 = true ∧ p.depth = depD d
  | .non, _ => ⟨_, rfl, rfl, rfl⟩
  | .bl _, _ => ⟨_, rfl, rfl, rfl⟩
  | .int _, _ => ⟨_, rfl, rfl, rfl⟩
  | .str x, h => by
    have h' : PyData.canLay0 (.str x) = true := by simpa [datD] using h
    exact ⟨.str x, by unfold toPy; rw [if_pos h'], h', rfl⟩
  | .tup ds, h => by
    obtain ⟨ps, h1, h2, h3⟩ := toPys_some ds (by simpa [datD] using h)
    exact ⟨.tuple ps, by simp [toPy, h1], by simpa [PyData.canLay0] using h2, by simp [PyData.depth, depD, h3]⟩
  | .lst ds, h => by
    obtain ⟨ps, h1, h2, h3⟩ := toPys_some ds (by simpa [datD] using h)
    exact ⟨.list ps, by simp [toPy, h1], by simpa [PyData.canLay0] using h2, by simp [PyData.depth, depD, h3]⟩
  | .obj _, h => by simp [datD] at h
  | .ty _, h => by simp [datD] at h
  | .gl _, h => by simp [datD] at h
  | .exv _, h => by simp [datD] at h
theorem toPys_some : ∀ (ds : List D), datDs ds = true → ∃ ps, toPys ds = some ps ∧ PyData.canLayAll0 ps = true ∧ PyData.depthAll ps = depDs ds
  | [], _ => ⟨[], rfl, rfl, rfl⟩
  | d :: ds, h => by
    have h' : datD d = true ∧ datDs ds = true := by simpa [datDs] using h
    obtain ⟨p, a1, a2, a3⟩ := toPy_some d h'.1
    obtain ⟨ps, b1, b2, b3⟩ := toPys_some ds h'.2
    exact ⟨p :: ps, by simp [toPys, a1, b1], by simp [PyData.canLayAll0, a2, b2], by simp [PyData.depthAll, depDs, a3, b3]⟩
end
theorem toPy_str {x : Str} {p : PyData} (h : toPy (.str x) = some p) : p = .str x := by
  unfold toPy at h
  split at h
  · cases h; rfl
  · cases h
theorem toPy_tup {ds : List D} {p : PyData} (h : toPy (.tup ds) = some p) : ∃ ps, toPys ds = some ps ∧ p = .tuple ps := by
  unfold toPy at h
  obtain ⟨ps, h1, h2⟩ := Option.map_eq_some_iff.mp h
  exact ⟨ps, h1, h2.symm⟩
theorem toPy_lst {ds : List D} {p : PyData} (h : toPy (.lst ds) = some p) : ∃ ps, toPys ds = some ps ∧ p = .list ps := by
  unfold toPy at h
  obtain ⟨ps, h1, h2⟩ := Option.map_eq_some_iff.mp h
  exact ⟨ps, h1, h2.symm⟩
theorem toPys_cons {d : D} {ds : List D} {ps : List PyData} (h : toPys (d :: ds) = some ps) : ∃ p qs, toPy d = some p ∧ toPys ds = some qs ∧ ps = p :: qs := by
  unfold toPys at h
  obtain ⟨p, h1, h2⟩ := Option.bind_eq_some_iff.mp h
  obtain ⟨qs, h3, h4⟩ := Option.map_eq_some_iff.mp h2
  exact ⟨p, qs, h1, h3, h4.symm⟩
mutual
theorem eqv_eqD : ∀ (a b : D) (p q : PyData), toPy a = some p → toPy b = some q → PyData.eqv p q = eqD a b
  | a, b, p, q, ha, hb => by
    cases a with
    | obj _ => cases ha
    | ty _ => cases ha
    | gl _ => cases ha
    | exv _ => cases ha
    | non =>
      cases ha
      cases b with
      | obj _ => cases hb
      | ty _ => cases hb
      | gl _ => cases hb
      | exv _ => cases hb
      | non => cases hb; rfl
      | bl _ => cases hb; rfl
      | int _ => cases hb; rfl
      | str _ => cases toPy_str hb; rfl
      | tup _ => obtain ⟨_, _, rfl⟩ := toPy_tup hb; rfl
      | lst _ => obtain ⟨_, _, rfl⟩ := toPy_lst hb; rfl
    | bl x =>
      cases ha
      cases b with
      | obj _ => cases hb
      | ty _ => cases hb
      | gl _ => cases hb
      | exv _ => cases hb
      | non => cases hb; rfl
      | bl _ => cases hb; rfl
      | int _ => cases hb; rfl
      | str _ => cases toPy_str hb; rfl
      | tup _ => obtain ⟨_, _, rfl⟩ := toPy_tup hb; rfl
      | lst _ => obtain ⟨_, _, rfl⟩ := toPy_lst hb; rfl
    | int x =>
      cases ha
      cases b with
      | obj _ => cases hb
      | ty _ => cases hb
      | gl _ => cases hb
      | exv _ => cases hb
      | non => cases hb; rfl
      | bl _ => cases hb; rfl
      | int _ => cases hb; rfl
      | str _ => cases toPy_str hb; rfl
      | tup _ => obtain ⟨_, _, rfl⟩ := toPy_tup hb; rfl
      | lst _ => obtain ⟨_, _, rfl⟩ := toPy_lst hb; rfl
    | str x =>
      cases toPy_str ha
      cases b with
      | obj _ => cases hb
      | ty _ => cases hb
      | gl _ => cases hb
      | exv _ => cases hb
      | non => cases hb; rfl
      | bl _ => cases hb; rfl
      | int _ => cases hb; rfl
      | str _ => cases toPy_str hb; simp [PyData.eqv, eqD]
      | tup _ => obtain ⟨_, _, rfl⟩ := toPy_tup hb; rfl
      | lst _ => obtain ⟨_, _, rfl⟩ := toPy_lst hb; rfl
    | tup xs =>
      obtain ⟨ps, h1, rfl⟩ := toPy_tup ha
      cases b with
      | obj _ => cases hb
      | ty _ => cases hb
      | gl _ => cases hb
      | exv _ => cases hb
      | non => cases hb; rfl
      | bl _ => cases hb; rfl
      | int _ => cases hb; rfl
      | str _ => cases toPy_str hb; rfl
      | tup ys => obtain ⟨qs, h2, rfl⟩ := toPy_tup hb; simp only [PyData.eqv, eqD]; exact eqv_eqDs xs ys ps qs h1 h2
      | lst _ => obtain ⟨_, _, rfl⟩ := toPy_lst hb; rfl
    | lst xs =>
      obtain ⟨ps, h1, rfl⟩ := toPy_lst ha
      cases b with
      | obj _ => cases hb
      | ty _ => cases hb
      | gl _ => cases hb
      | exv _ => cases hb
      | non => cases hb; rfl
      | bl _ => cases hb; rfl
      | int _ => cases hb; rfl
      | str _ => cases toPy_str hb; rfl
      | tup _ => obtain ⟨_, _, rfl⟩ := toPy_tup hb; rfl
      | lst ys => obtain ⟨qs, h2, rfl⟩ := toPy_lst hb; simp only [PyData.eqv, eqD]; exact eqv_eqDs xs ys ps qs h1 h2
theorem eqv_eqDs : ∀ (xs ys : List D) (ps qs : List PyData), toPys xs = some ps → toPys ys = some qs → PyData.eqvAll ps qs = eqDs xs ys
  | [], [], ps, qs, ha, hb => by cases ha; cases hb; rfl
  | [], y :: ys, ps, qs, ha, hb => by cases ha; obtain ⟨_, _, _, _, rfl⟩ := toPys_cons hb; rfl
  | x :: xs, [], ps, qs, ha, hb => by cases hb; obtain ⟨_, _, _, _, rfl⟩ := toPys_cons ha; rfl
  | x :: xs, y :: ys, ps, qs, ha, hb => by
    obtain ⟨p, ps', h1, h2, rfl⟩ := toPys_cons ha
    obtain ⟨q, qs', h3, h4, rfl⟩ := toPys_cons hb
    simp only [PyData.eqvAll, eqDs, eqv_eqD x y p q h1 h3, eqv_eqDs xs ys ps' qs' h2 h4]
end

section
variable {G : Gr} {m : Mp} {S : Store} {H : Hp}
mutual
theorem Rep.dp : ∀ {v : V} {d : D} {p : PyData}, Rep G m H v d → toPy d = some p → Dp G.K H v p
  | _, _, _, .non, h => by cases h; exact .non
  | _, _, _, .bl b, h => by cases h; exact .bl b
  | _, _, _, .int i, h => by cases h; exact .int i
  | _, _, _, .str s, h => by cases toPy_str h; exact .str s
  | _, _, _, .tup h1 r, h => by obtain ⟨ps, e, rfl⟩ := toPy_tup h; exact .tup h1 (RepAll.dp r e)
  | _, _, _, .lst h1 _ r, h => by obtain ⟨ps, e, rfl⟩ := toPy_lst h; exact .lst (SqX.sq (.inl h1)) (RepAll.dp r e)
  | _, _, _, .klst h1 r, h => by obtain ⟨ps, e, rfl⟩ := toPy_lst h; exact .lst (SqX.sq (.inr h1)) (RepAll.dp r e)
  | _, _, _, .obj _ _, h => by cases h
  | _, _, _, .ty _, h => by cases h
  | _, _, _, .gl _, h => by cases h
  | _, _, _, .exv, h => by cases h
theorem RepAll.dp : ∀ {xs : List V} {ds : List D} {ps : List PyData}, RepAll G m H xs ds → toPys ds = some ps → DpAll G.K H xs ps
  | _, _, _, .nil, h => by cases h; exact .nil
  | _, _, _, .cons a r, h => by obtain ⟨p, qs, h1, h2, rfl⟩ := toPys_cons h; exact .cons (Rep.dp a h1) (RepAll.dp r h2)
end
/-- a list, also one of the store, by its items -/
theorem Rep.getL {v : V} {d : D} {ds : List D} (sr : SR G m S H) (r : Rep G m H v d) (h : getS S d = .lst ds) : ∃ a xs, v = .ref a ∧ SqX G.K H a xs ∧ RepAll G m H xs ds := by
  cases r with
  | lst h1 h2 h3 => cases h; exact ⟨_, _, rfl, .inl h1, h3⟩
  | klst h1 h3 => cases h; exact ⟨_, _, rfl, .inr h1, h3⟩
  | @obj n a h1 h2 =>
    simp only [getS] at h
    split at h
    · rename_i es hs
      cases h
      cases q : m.sl[n]? with
      | none => rw [List.getElem?_eq_none_iff] at q; omega
      | some o =>
        cases o with
        | none =>
          have z := sr.dead n q
          rw [hs] at z; cases z
        | some b =>
          have e := h2 b q
          subst e
          obtain ⟨xs, hx, rx⟩ := sr.at_ n b _ q hs
          exact ⟨b, xs, rfl, .inl (.inl hx), rx⟩
    · cases h
  | non => cases h
  | bl _ => cases h
  | int _ => cases h
  | str _ => cases h
  | tup _ _ => cases h
  | ty _ => cases h
  | gl _ => cases h
  | exv => cases h
theorem Rep.getT {v : V} {d : D} {ds : List D} (r : Rep G m H v d) (h : d = .tup ds) : ∃ a xs, v = .ref a ∧ SqT G.K H a xs ∧ RepAll G m H xs ds := by
  subst h
  cases r with
  | tup h1 h3 => exact ⟨_, _, rfl, h1, h3⟩
theorem getS_not {d : D} (h : ∀ n, d ≠ .obj n) : getS S d = d := by
  cases d <;> first | rfl | exact absurd rfl (h _)
theorem toPy_getS {d : D} {p : PyData} {v : V} (sr : SR G m S H) (r : Rep G m H v d) (h : toPy (getS S d) = some p) : Dp G.K H v p := by
  by_cases o : ∃ n, d = .obj n
  · obtain ⟨n, rfl⟩ := o
    cases q : getS S (.obj n) with
    | lst ds =>
      rw [q] at h
      obtain ⟨ps, e, rfl⟩ := toPy_lst h
      obtain ⟨a, xs, rfl, hx, rx⟩ := r.getL sr q
      exact .lst hx.sq (RepAll.dp rx e)
    | obj k => rw [q] at h; cases h
    | _ =>
      exfalso
      simp only [getS] at q
      split at q <;> cases q
  · rw [getS_not fun n e => o ⟨n, e⟩] at h
    exact r.dp h
end

/-! ### the operators -/
/-- fit to be compared -/
def cmpOk (d : D) : Bool := datD d && decide (depD d ≤ 64)
theorem cmpOk_py {d : D} (h : cmpOk d = true) : ∃ p, toPy d = some p ∧ SeqAt.shaped p = true := by
  unfold cmpOk at h
  simp only [Bool.and_eq_true, decide_eq_true_eq] at h
  obtain ⟨p, h1, h2, h3⟩ := toPy_some d h.1
  refine ⟨p, h1, ?_⟩
  unfold SeqAt.shaped
  rw [h2, h3]
  simpa using h.2
def eqO (x y : D) (S : Store) : Option D := if (cmpOk (getS S x) && cmpOk (getS S y)) = true then some (.bl (eqD (getS S x) (getS S y))) else none
def neO (x y : D) (S : Store) : Option D := if (cmpOk (getS S x) && cmpOk (getS S y)) = true then some (.bl (!eqD (getS S x) (getS S y))) else none
section
variable {G : Gr} {X : Cx}
theorem opd_eq (hK : X.K = G.K) (hu : X.A.units + 64 < cLine) : OpD G X (compareOp .Eq) eqO := by
  refine ⟨_, op_eqD hu, fun W τ m S σ H Q v w x y rv rw_ hA => ?_⟩
  obtain ⟨d, hd, k⟩ := hA.fin
  unfold eqO at hd
  split at hd
  · rename_i hc
    cases hd
    rw [Bool.and_eq_true] at hc
    obtain ⟨p, p1, p2⟩ := cmpOk_py hc.1
    obtain ⟨q, q1, q2⟩ := cmpOk_py hc.2
    rw [hK]
    exact ⟨p, q, toPy_getS hA.sr rv p1, toPy_getS hA.sr rw_ q1, p2, q2, k m H _ (Ext.refl _ _) hA.sr (by rw [eqv_eqD _ _ _ _ p1 q1]; exact .bl _)⟩
  · cases hd
theorem opd_ne (hK : X.K = G.K) (hu : X.A.units + 64 < cLine) : OpD G X (compareOp .NotEq) neO := by
  refine ⟨_, op_neD hu, fun W τ m S σ H Q v w x y rv rw_ hA => ?_⟩
  obtain ⟨d, hd, k⟩ := hA.fin
  unfold neO at hd
  split at hd
  · rename_i hc
    cases hd
    rw [Bool.and_eq_true] at hc
    obtain ⟨p, p1, p2⟩ := cmpOk_py hc.1
    obtain ⟨q, q1, q2⟩ := cmpOk_py hc.2
    rw [hK]
    exact ⟨p, q, toPy_getS hA.sr rv p1, toPy_getS hA.sr rw_ q1, p2, q2, k m H _ (Ext.refl _ _) hA.sr (by rw [eqv_eqD _ _ _ _ p1 q1]; exact .bl _)⟩
  · cases hd

/-! is None, is True -/
def isO (neg : Bool) (x y : D) (_ : Store) : Option D := match y, x with
  | .non, .non => some (.bl (!neg))
  | .non, _ => some (.bl neg)
  | .bl b, .bl a => some (.bl ((a == b) != neg))
  | .bl _, _ => some (.bl neg)
  | _, _ => none
theorem opR_isB : OpR X (compareOp .Is) (fun x y H Q => (y = .non ∧ Q (.bl (decide (x = .non))) H) ∨ ∃ b, y = .bl b ∧ Q (.bl (decide (x = .bl b))) H) := by
  refine op_isN.or ?_
  intro pins s σ H x y v u Q I rx ry h
  obtain ⟨b, rfl, q⟩ := h
  cases (show u = Value.bool b from ry)
  cases x with
  | bl a =>
    cases (show v = Value.bool a from rx)
    by_cases e : a = b
    · subst e
      exact wpAny_is_self rfl ⟨.bl true, H, I, rfl, by simpa using q⟩
    · exact wpAny_is_other rfl (fun z => e (Value.bool.inj z)) ⟨.bl false, H, I, rfl, by simpa [e] using q⟩
  | non => cases rx; exact wpAny_is_other rfl (fun z => nomatch z) ⟨.bl false, H, I, rfl, by simpa using q⟩
  | int i => obtain ⟨t, rfl⟩ := rx; exact wpAny_is_other rfl (fun z => nomatch z) ⟨.bl false, H, I, rfl, by simpa using q⟩
  | str i => obtain ⟨t, rfl⟩ := rx; exact wpAny_is_other rfl (fun z => nomatch z) ⟨.bl false, H, I, rfl, by simpa using q⟩
  | byt i => obtain ⟨t, rfl⟩ := rx; exact wpAny_is_other rfl (fun z => nomatch z) ⟨.bl false, H, I, rfl, by simpa using q⟩
  | flt i => obtain ⟨t, rfl⟩ := rx; exact wpAny_is_other rfl (fun z => nomatch z) ⟨.bl false, H, I, rfl, by simpa using q⟩
  | ref i => cases rx; exact wpAny_is_other rfl (fun z => nomatch z) ⟨.bl false, H, I, rfl, by simpa using q⟩
  | ty i => cases rx; exact wpAny_is_other rfl (fun z => nomatch z) ⟨.bl false, H, I, rfl, by simpa using q⟩
theorem opR_notB : OpR X (compareOp .IsNot) (fun x y H Q => (y = .non ∧ Q (.bl (!decide (x = .non))) H) ∨ ∃ b, y = .bl b ∧ Q (.bl (!decide (x = .bl b))) H) := by
  refine op_notN.or ?_
  intro pins s σ H x y v u Q I rx ry h
  obtain ⟨b, rfl, q⟩ := h
  cases (show u = Value.bool b from ry)
  cases x with
  | bl a =>
    cases (show v = Value.bool a from rx)
    by_cases e : a = b
    · subst e
      exact wpAny_isNot_self rfl ⟨.bl false, H, I, rfl, by simpa using q⟩
    · exact wpAny_isNot_other rfl (fun z => e (Value.bool.inj z)) ⟨.bl true, H, I, rfl, by simpa [e] using q⟩
  | non => cases rx; exact wpAny_isNot_other rfl (fun z => nomatch z) ⟨.bl true, H, I, rfl, by simpa using q⟩
  | int i => obtain ⟨t, rfl⟩ := rx; exact wpAny_isNot_other rfl (fun z => nomatch z) ⟨.bl true, H, I, rfl, by simpa using q⟩
  | str i => obtain ⟨t, rfl⟩ := rx; exact wpAny_isNot_other rfl (fun z => nomatch z) ⟨.bl true, H, I, rfl, by simpa using q⟩
  | byt i => obtain ⟨t, rfl⟩ := rx; exact wpAny_isNot_other rfl (fun z => nomatch z) ⟨.bl true, H, I, rfl, by simpa using q⟩
  | flt i => obtain ⟨t, rfl⟩ := rx; exact wpAny_isNot_other rfl (fun z => nomatch z) ⟨.bl true, H, I, rfl, by simpa using q⟩
  | ref i => cases rx; exact wpAny_isNot_other rfl (fun z => nomatch z) ⟨.bl true, H, I, rfl, by simpa using q⟩
  | ty i => cases rx; exact wpAny_isNot_other rfl (fun z => nomatch z) ⟨.bl true, H, I, rfl, by simpa using q⟩
theorem opd_is : OpD G X (compareOp .Is) (isO false) := by
  refine ⟨_, opR_isB, fun W τ m S σ H Q v w x y rv rw_ hA => ?_⟩
  obtain ⟨d, hd, k⟩ := hA.fin
  have fin : ∀ b, d = .bl b → Q (.bl b) H := fun b e => k m H _ (Ext.refl _ _) hA.sr (e ▸ .bl b)
  cases y with
  | non =>
    cases rw_
    refine .inl ⟨rfl, ?_⟩
    cases rv <;> cases hd <;> exact fin _ rfl
  | bl b =>
    cases rw_
    refine .inr ⟨b, rfl, ?_⟩
    cases rv <;> cases hd <;> first | exact fin _ rfl | (refine fin _ ?_; congr 1; rename_i c; cases b <;> cases c <;> rfl)
  | _ => cases x <;> cases hd
theorem opd_isnot : OpD G X (compareOp .IsNot) (isO true) := by
  refine ⟨_, opR_notB, fun W τ m S σ H Q v w x y rv rw_ hA => ?_⟩
  obtain ⟨d, hd, k⟩ := hA.fin
  have fin : ∀ b, d = .bl b → Q (.bl b) H := fun b e => k m H _ (Ext.refl _ _) hA.sr (e ▸ .bl b)
  cases y with
  | non =>
    cases rw_
    refine .inl ⟨rfl, ?_⟩
    cases rv <;> cases hd <;> exact fin _ rfl
  | bl b =>
    cases rw_
    refine .inr ⟨b, rfl, ?_⟩
    cases rv <;> cases hd <;> first | exact fin _ rfl | (refine fin _ ?_; congr 1; rename_i c; cases b <;> cases c <;> rfl)
  | _ => cases x <;> cases hd
end

/-! in, not in: lists and tuples of data -/
def seqD (S : Store) (d : D) : Option (List D) := match getS S d with
  | .tup ds => some ds
  | .lst ds => some ds
  | _ => none
def inO (neg : Bool) (x y : D) (S : Store) : Option D := match seqD S y with
  | some ds => if (cmpOk (getS S x) && cmpOk (getS S y)) = true then some (.bl ((ds.any fun z => eqD z (getS S x)) != neg)) else none
  | none => none
section
variable {G : Gr} {X : Cx}
def rInX (K : PySem.W.Frag) (neg : Bool) : R2 := fun x y H Q => ∃ d ds, Dp K H x d ∧ (Dp K H y (.list ds) ∨ Dp K H y (.tuple ds)) ∧ SeqAt.shaped d = true ∧ PyData.canLayAll0 ds = true ∧ Q (.bl ((ds.any fun z => PyData.eqv z d) != neg)) H
theorem opR_in (hu : X.A.units + 65 < cLine) : OpR X (compareOp .In) (rInX X.K false) := by
  intro pins s σ H x y v u Q I rx ry h
  obtain ⟨d, ds, hd, he, sd, se, q⟩ := h
  obtain ⟨as, r1⟩ := Dp.reads I d x v hd rx
  rcases he with he | he
  · obtain ⟨bs, r2⟩ := Dp.reads I (.list ds) y u he ry
    exact SeqAt.in_list_reads r2 r1 (by simpa [PyData.canLay0] using se) (SeqAt.canLay_of_shaped sd) (room_in_shaped sd hu) ⟨.bl _, H, I, rfl, by simpa using q⟩
  · obtain ⟨bs, r2⟩ := Dp.reads I (.tuple ds) y u he ry
    exact SeqAt.in_tuple_reads r2 r1 (by simpa [PyData.canLay0] using se) (SeqAt.canLay_of_shaped sd) (room_in_shaped sd hu) ⟨.bl _, H, I, rfl, by simpa using q⟩
theorem opR_notIn (hu : X.A.units + 65 < cLine) : OpR X (compareOp .NotIn) (rInX X.K true) := by
  intro pins s σ H x y v u Q I rx ry h
  obtain ⟨d, ds, hd, he, sd, se, q⟩ := h
  obtain ⟨as, r1⟩ := Dp.reads I d x v hd rx
  rcases he with he | he
  · obtain ⟨bs, r2⟩ := Dp.reads I (.list ds) y u he ry
    exact SeqAt.notIn_list_reads r2 r1 (by simpa [PyData.canLay0] using se) (SeqAt.canLay_of_shaped sd) (room_in_shaped sd hu) ⟨.bl _, H, I, rfl, by simpa using q⟩
  · obtain ⟨bs, r2⟩ := Dp.reads I (.tuple ds) y u he ry
    exact SeqAt.notIn_tuple_reads r2 r1 (by simpa [PyData.canLay0] using se) (SeqAt.canLay_of_shaped sd) (room_in_shaped sd hu) ⟨.bl _, H, I, rfl, by simpa using q⟩
theorem any_eqv {d : D} {p : PyData} (h : toPy d = some p) : ∀ (ds : List D) (ps : List PyData), toPys ds = some ps → (ps.any fun z => PyData.eqv z p) = ds.any fun z => eqD z d
  | [], _, e => by cases e; rfl
  | x :: xs, _, e => by
    obtain ⟨q, qs, h1, h2, rfl⟩ := toPys_cons e
    simp only [List.any_cons, eqv_eqD x d q p h1 h, any_eqv h xs qs h2]
theorem opd_in_of {neg : Bool} {op : CmpOp} (hK : X.K = G.K) (hr : OpR X (compareOp op) (rInX X.K neg)) : OpD G X (compareOp op) (inO neg) := by
  refine ⟨_, hr, fun W τ m S σ H Q v w x y rv rw_ hA => ?_⟩
  obtain ⟨d, hd, k⟩ := hA.fin
  unfold inO at hd
  split at hd
  · rename_i ds hs
    split at hd
    · rename_i hc
      cases hd
      rw [Bool.and_eq_true] at hc
      obtain ⟨p, p1, p2⟩ := cmpOk_py hc.1
      obtain ⟨q, q1, q2⟩ := cmpOk_py hc.2
      rw [hK]
      have dq := toPy_getS hA.sr rw_ q1
      unfold seqD at hs
      split at hs
      · rename_i es he
        cases hs
        rw [he] at q1
        obtain ⟨ps, e, rfl⟩ := toPy_tup q1
        exact ⟨p, ps, toPy_getS hA.sr rv p1, .inr dq, p2, by simpa [PyData.canLay0] using SeqAt.canLay_of_shaped q2, k m H _ (Ext.refl _ _) hA.sr (by rw [any_eqv p1 _ _ e]; exact .bl _)⟩
      · rename_i es he
        cases hs
        rw [he] at q1
        obtain ⟨ps, e, rfl⟩ := toPy_lst q1
        exact ⟨p, ps, toPy_getS hA.sr rv p1, .inl dq, p2, by simpa [PyData.canLay0] using SeqAt.canLay_of_shaped q2, k m H _ (Ext.refl _ _) hA.sr (by rw [any_eqv p1 _ _ e]; exact .bl _)⟩
      · cases hs
    · cases hd
  · cases hd
theorem opd_in (hK : X.K = G.K) (hu : X.A.units + 65 < cLine) : OpD G X (compareOp .In) (inO false) := opd_in_of hK (opR_in hu)
theorem opd_notIn (hK : X.K = G.K) (hu : X.A.units + 65 < cLine) : OpD G X (compareOp .NotIn) (inO true) := opd_in_of hK (opR_notIn hu)
end
end Dx

set_option Elab.async false
set_option linter.all false
set_option maxRecDepth 100000
set_option maxHeartbeats 4000000
/-! DX, part 4: +, -, * of all kinds; places and slices. -/
namespace Dx
open PySem PySem.Spec PyProof.Rows L2

def addF (mu : Bool) (x y : D) : F := fun τ S Q E => match getS S x, getS S y with
  | .int i, .int j => Q (.int (i + j)) S
  | .str a, .str b => a.length + b.length ≤ sizeLine ∧ Q (.str (a ++ b)) S
  | .tup a, .tup b => a.length + b.length ≤ sizeLine ∧ Q (.tup (a ++ b)) S
  | .lst a, .lst b => a.length + b.length ≤ sizeLine ∧ newL mu (a ++ b) τ S Q E
  | .int i, .bl b => Q (.int (i + b2i b)) S
  | .bl a, .int j => Q (.int (b2i a + j)) S
  | .bl a, .bl b => Q (.int (b2i a + b2i b)) S
  | _, _ => False
def subF (x y : D) : F := fun _ S Q _ => match x, y with
  | .int i, .int j => Q (.int (i - j)) S
  | .int i, .bl b => Q (.int (i - b2i b)) S
  | .bl a, .int j => Q (.int (b2i a - j)) S
  | .bl a, .bl b => Q (.int (b2i a - b2i b)) S
  | _, _ => False
def mulF (mu : Bool) (x y : D) : F := fun τ S Q E => match getS S x, getS S y with
  | .int i, .int j => cMul i j = true ∧ Q (.int (i * j)) S
  | .lst a, .int k => (-(2 ^ 63) ≤ k ∧ k < 2 ^ 63 ∧ a.length * k.toNat ≤ sizeLine) ∧ newL mu (List.replicate k.toNat a).flatten τ S Q E
  | .tup a, .int k => (a ≠ [] ∧ 2 ≤ k ∧ k ≤ 1000 ∧ a.length ≤ 1000) ∧ Q (.tup (List.replicate k.toNat a).flatten) S
  | _, _ => False

section
variable {X : Cx}
theorem opR_cat : OpR X (binaryOp .Add) (fun x y H Q => ∃ l b xs zs, x = .ref l ∧ y = .ref b ∧ SqX X.K H l xs ∧ SqX X.K H b zs ∧ xs.length + zs.length ≤ sizeLine ∧ ∀ p, H p = none → Q (.ref p) (upd H p (.lst (xs ++ zs)))) := by
  intro pins s σ H x y v u Q I rx ry h
  obtain ⟨l, b, xs, zs, rfl, rfl, hH, hB, hz, q⟩ := h
  cases rx
  cases ry
  obtain ⟨z, its, n, r, hl, e⟩ := listX I hH
  obtain ⟨z2, its2, n2, r2, hl2, e2⟩ := listX I hB
  refine PySem.P.add_list e e2 ?_ (by rw [List.size_toArray, List.size_toArray]; omega)
  have ea : its.toArray ++ its2.toArray = (its ++ its2).toArray := by simp
  rw [ea]
  exact ⟨.ref _, _, I.lnew (t' := s.toks) (r.append r2) (by rw [List.length_append]; omega), rfl, q _ I.fresh⟩
theorem opR_rep : OpR X (binaryOp .Mult) (fun x y H Q => ∃ l k xs, x = .ref l ∧ y = .int k ∧ SqX X.K H l xs ∧ -(2 ^ 63) ≤ k ∧ k < 2 ^ 63 ∧ xs.length * k.toNat ≤ sizeLine ∧
  ∀ p, H p = none → Q (.ref p) (upd H p (.lst (List.replicate k.toNat xs).flatten))) := by
  intro pins s σ H x y v u Q I rx ry h
  obtain ⟨l, k, xs, rfl, rfl, hH, h1, h2, hz, q⟩ := h
  cases rx
  obtain ⟨t, rfl⟩ := ry
  obtain ⟨z, its, n, r, hl, e⟩ := listX I hH
  have hlen : its.toArray.size * k.toNat ≤ sizeLine := by rw [List.size_toArray, ← hl]; exact hz
  have hcap : ¬ its.toArray.size * k.toNat > (2 ^ 63 - 1) / 8 := by
    have : (sizeLine : Nat) ≤ (2 ^ 63 - 1) / 8 := by decide
    omega
  have hfit : ¬ (!Builtin.List.listFitsIndex k) = true := by
    rw [fitsIndex_both h1 h2]
    exact Bool.false_ne_true
  have hlong : ¬ Builtin.List.listTooLong (its.toArray.size * k.toNat) = true := by
    rw [notLongL hlen]
    exact Bool.false_ne_true
  have hnew : List.foldl (fun x1 x2 => x1 ++ x2) #[] (List.replicate (if its.toArray.isEmpty = true then 0 else k.toNat) its.toArray) = (List.replicate k.toNat its).flatten.toArray := by
    have f0 : ∀ m : Nat, List.foldl (fun x1 x2 => x1 ++ x2) #[] (List.replicate m its.toArray) = (List.replicate m its).flatten.toArray := fun m => by
      have := foldl_rep its m []
      rw [List.nil_append] at this
      exact this
    rw [f0]
    cases its with
    | nil => simp
    | cons a r' => rw [if_neg (by simp)]
  refine wpAny_binaryOp_repeat_ref (T := "list") (U := "int") (by decide) ⟨_, e, rfl⟩ (fun s' => typeIs_int s' k t) noFill_list_mul F.fills_int_mul F.slot_int_rmul repeat_list F.slot_int_index.lookup
    (call_meets F.slot_int_rmul (typeIs_int s k t) F.entry_int_rmul (F.args_int_rmul_2 _ _) (int___rmul___int_list k t l its.toArray n)
      ⟨e, rfl, ⟨_, e, rfl⟩, call_meets F.slot_list_mul ⟨_, e, rfl⟩ F.entry_list_mul (F.args_list_mul_2 _ _) (AutoListH.list___mul___list_int_3 l its.toArray n k t hfit hcap hlong) ⟨e, ?_⟩⟩)
  rw [hnew]
  exact ⟨.ref _, _, I.lnew (t' := s.toks) (r.rep k.toNat) (by rw [PyProof.Rows.lm_len_rep_flat, Nat.mul_comm]; exact hz), rfl, q _ I.fresh⟩
theorem opR_addib : OpR X (binaryOp .Add) (fun x y H Q => ∃ i k, x = .int i ∧ y = .bl k ∧ Q (.int (i + b2i k)) H) := op_add_ib
theorem opR_addbi : OpR X (binaryOp .Add) (fun x y H Q => ∃ k i, x = .bl k ∧ y = .int i ∧ Q (.int (b2i k + i)) H) := by
  intro pins s σ H x y v u Q I rx ry h
  obtain ⟨k, i, rfl, rfl, q⟩ := h
  obtain ⟨t, rfl⟩ := ry
  cases rx
  exact PySem.IntBool.add_bool_int ⟨.int (b2i k + i), H, I.tok _, ⟨_, rfl⟩, q⟩
theorem opR_addbb : OpR X (binaryOp .Add) (fun x y H Q => ∃ k i, x = .bl k ∧ y = .bl i ∧ Q (.int (b2i k + b2i i)) H) := by
  intro pins s σ H x y v u Q I rx ry h
  obtain ⟨k, i, rfl, rfl, q⟩ := h
  cases ry
  cases rx
  exact add_bool ⟨.int (b2i k + b2i i), H, I.tok _, ⟨_, rfl⟩, q⟩
theorem opR_subib : OpR X (binaryOp .Sub) (fun x y H Q => ∃ i k, x = .int i ∧ y = .bl k ∧ Q (.int (i - b2i k)) H) := by
  intro pins s σ H x y v u Q I rx ry h
  obtain ⟨k, i, rfl, rfl, q⟩ := h
  obtain ⟨t, rfl⟩ := rx
  cases ry
  exact PySem.IntBool.sub_int_bool ⟨.int (k - b2i i), H, I.tok _, ⟨_, rfl⟩, q⟩
theorem opR_subbi : OpR X (binaryOp .Sub) (fun x y H Q => ∃ k i, x = .bl k ∧ y = .int i ∧ Q (.int (b2i k - i)) H) := by
  intro pins s σ H x y v u Q I rx ry h
  obtain ⟨k, i, rfl, rfl, q⟩ := h
  obtain ⟨t, rfl⟩ := ry
  cases rx
  exact PySem.IntBool.sub_bool_int ⟨.int (b2i k - i), H, I.tok _, ⟨_, rfl⟩, q⟩
theorem opR_subbb : OpR X (binaryOp .Sub) (fun x y H Q => ∃ k i, x = .bl k ∧ y = .bl i ∧ Q (.int (b2i k - b2i i)) H) := by
  intro pins s σ H x y v u Q I rx ry h
  obtain ⟨k, i, rfl, rfl, q⟩ := h
  cases ry
  cases rx
  exact sub_bool ⟨.int (b2i k - b2i i), H, I.tok _, ⟨_, rfl⟩, q⟩
end

section
variable {G : Gr} {m : Mp} {S : Store} {H : Hp}
/-- the value behind getS -/
theorem getS_int {d : D} {i : Int} (h : getS S d = .int i) : d = .int i := by
  cases d <;> simp only [getS] at h <;> first | exact h | (split at h <;> cases h)
theorem getS_str {d : D} {i : Str} (h : getS S d = .str i) : d = .str i := by
  cases d <;> simp only [getS] at h <;> first | exact h | (split at h <;> cases h)
theorem getS_bl {d : D} {i : Bool} (h : getS S d = .bl i) : d = .bl i := by
  cases d <;> simp only [getS] at h <;> first | exact h | (split at h <;> cases h)
theorem getS_tup {d : D} {i : List D} (h : getS S d = .tup i) : d = .tup i := by
  cases d <;> simp only [getS] at h <;> first | exact h | (split at h <;> cases h)
end
theorem RepAll.rep {G : Gr} {m : Mp} {H : Hp} {xs : List V} {ds : List D} (h : RepAll G m H xs ds) : ∀ k : Nat, RepAll G m H (List.replicate k xs).flatten (List.replicate k ds).flatten
  | 0 => .nil
  | k + 1 => by
    rw [List.replicate_succ, List.replicate_succ, List.flatten_cons, List.flatten_cons]
    exact h.append (RepAll.rep h k)
theorem RepAll.ne {G : Gr} {m : Mp} {H : Hp} {xs : List V} {ds : List D} (h : RepAll G m H xs ds) : xs = [] ↔ ds = [] := by
  have := h.length
  constructor
  · intro e; subst e; exact List.eq_nil_of_length_eq_zero (by simpa using this.symm)
  · intro e; subst e; exact List.eq_nil_of_length_eq_zero (by simpa using this)
section
variable {G : Gr} {X : Cx}
theorem opf_add (hK : X.K = G.K) (mu : Bool) : OpF G X (binaryOp .Add) (addF mu) := by
  refine ⟨_, op_add.or (op_add_str.or (op_catA.or (opR_cat.or (opR_addib.or (opR_addbi.or opR_addbb))))), fun W τ m S σ H Q v w x y rv rw_ hA => ?_⟩
  rw [hK]
  obtain ⟨QD, QE, sr, er, hf, k, px⟩ := hA
  unfold addF at hf
  split at hf
  · rename_i i j h1 h2
    cases getS_int h1; cases getS_int h2; cases rv; cases rw_
    exact .inl ⟨_, _, rfl, rfl, k m S H _ _ (Ext.refl _ _) sr (.int _) hf⟩
  · rename_i i j h1 h2
    cases getS_str h1; cases getS_str h2; cases rv; cases rw_
    exact .inr (.inl ⟨_, _, rfl, rfl, hf.1, k m S H _ _ (Ext.refl _ _) sr (.str _) hf.2⟩)
  · rename_i i j h1 h2
    cases getS_tup h1; cases getS_tup h2
    obtain ⟨a, xs, rfl, t1, r1⟩ := rv.getT rfl
    obtain ⟨b, ys, rfl, t2, r2⟩ := rw_.getT rfl
    refine .inr (.inr (.inl ⟨a, b, xs, ys, rfl, rfl, t1, t2, by rw [r1.length, r2.length]; exact hf.1, fun e => ?_, fun _ e => ?_, fun _ _ p hp => ?_⟩))
    · cases r1.ne.mp e
      exact k m S H _ _ (Ext.refl _ _) sr rw_ (by simpa using hf.2)
    · cases r2.ne.mp e
      exact k m S H _ _ (Ext.refl _ _) sr rv (by simpa using hf.2)
    · exact At.newT (W := W) ⟨QD, QE, sr, er, hf.2, k, px⟩ hp (r1.append r2)
  · rename_i i j h1 h2
    obtain ⟨a, xs, rfl, t1, r1⟩ := rv.getL sr h1
    obtain ⟨b, ys, rfl, t2, r2⟩ := rw_.getL sr h2
    exact .inr (.inr (.inr (.inl ⟨a, b, xs, ys, rfl, rfl, hK ▸ t1, hK ▸ t2, by rw [r1.length, r2.length]; exact hf.1, fun p hp => At.newL (W := W) ⟨QD, QE, sr, er, hf.2, k, px⟩ hp (r1.append r2)⟩)))
  · rename_i i j h1 h2
    cases getS_int h1; cases getS_bl h2; cases rv; cases rw_
    exact .inr (.inr (.inr (.inr (.inl ⟨_, _, rfl, rfl, k m S H _ _ (Ext.refl _ _) sr (.int _) hf⟩))))
  · rename_i i j h1 h2
    cases getS_bl h1; cases getS_int h2; cases rv; cases rw_
    exact .inr (.inr (.inr (.inr (.inr (.inl ⟨_, _, rfl, rfl, k m S H _ _ (Ext.refl _ _) sr (.int _) hf⟩)))))
  · rename_i i j h1 h2
    cases getS_bl h1; cases getS_bl h2; cases rv; cases rw_
    exact .inr (.inr (.inr (.inr (.inr (.inr ⟨_, _, rfl, rfl, k m S H _ _ (Ext.refl _ _) sr (.int _) hf⟩)))))
  · exact hf.elim
theorem opf_sub : OpF G X (binaryOp .Sub) subF := by
  refine ⟨_, op_sub.or (opR_subib.or (opR_subbi.or opR_subbb)), fun W τ m S σ H Q v w x y rv rw_ hA => ?_⟩
  obtain ⟨QD, QE, sr, er, hf, k, px⟩ := hA
  unfold subF at hf
  split at hf
  · cases rv; cases rw_
    exact .inl ⟨_, _, rfl, rfl, k m S H _ _ (Ext.refl _ _) sr (.int _) hf⟩
  · cases rv; cases rw_
    exact .inr (.inl ⟨_, _, rfl, rfl, k m S H _ _ (Ext.refl _ _) sr (.int _) hf⟩)
  · cases rv; cases rw_
    exact .inr (.inr (.inl ⟨_, _, rfl, rfl, k m S H _ _ (Ext.refl _ _) sr (.int _) hf⟩))
  · cases rv; cases rw_
    exact .inr (.inr (.inr ⟨_, _, rfl, rfl, k m S H _ _ (Ext.refl _ _) sr (.int _) hf⟩))
  · exact hf.elim
theorem opf_mul (hK : X.K = G.K) (mu : Bool) : OpF G X (binaryOp .Mult) (mulF mu) := by
  refine ⟨_, op_mulA.or (opR_rep.or op_repT), fun W τ m S σ H Q v w x y rv rw_ hA => ?_⟩
  rw [hK]
  obtain ⟨QD, QE, sr, er, hf, k, px⟩ := hA
  unfold mulF at hf
  split at hf
  · rename_i i j h1 h2
    cases getS_int h1; cases getS_int h2; cases rv; cases rw_
    exact .inl ⟨_, _, rfl, rfl, hf.1, k m S H _ _ (Ext.refl _ _) sr (.int _) hf.2⟩
  · rename_i i j h1 h2
    obtain ⟨a, xs, rfl, t1, r1⟩ := rv.getL sr h1
    cases getS_int h2; cases rw_
    exact .inr (.inl ⟨a, _, xs, rfl, rfl, hK ▸ t1, hf.1.1, hf.1.2.1, by rw [r1.length]; exact hf.1.2.2, fun p hp => At.newL (W := W) ⟨QD, QE, sr, er, hf.2, k, px⟩ hp (r1.rep _)⟩)
  · rename_i i j h1 h2
    cases getS_tup h1
    obtain ⟨a, xs, rfl, t1, r1⟩ := rv.getT rfl
    cases getS_int h2; cases rw_
    exact .inr (.inr ⟨a, _, xs, rfl, rfl, t1, fun e => hf.1.1 (r1.ne.mp e), hf.1.2.1, hf.1.2.2.1, by rw [r1.length]; exact hf.1.2.2.2, fun p hp => At.newT (W := W) ⟨QD, QE, sr, er, hf.2, k, px⟩ hp (r1.rep _)⟩)
  · exact hf.elim
end
end Dx

set_option Elab.async false
set_option linter.all false
set_option maxRecDepth 100000
set_option maxHeartbeats 4000000
/-! DX, part 5: places, slices, truth, and, or, not, if, displays, arguments. -/
namespace Dx
open PySem PySem.Spec PyProof.Rows L2

/-! ### places -/
def idxF (x y : D) : F := fun _ S Q _ => match getS S x, y with
  | .tup ds, .int i => (match atI ds i with | some d => Q d S | none => False)
  | .lst ds, .int i => (match atI ds i with | some d => Q d S | none => False)
  | .str z, .int i => z.length ≤ sizeLine ∧ (match atI z.cps.toList i with | some c => Q (.str ⟨#[c]⟩) S | none => False)
  | _, _ => False
theorem RepAll.atI {G : Gr} {m : Mp} {H : Hp} {xs : List V} {ds : List D} (r : RepAll G m H xs ds) {i : Int} {d : D} (h : L2.atI ds i = some d) : ∃ v, L2.atI xs i = some v ∧ Rep G m H v d := by
  unfold L2.atI at h ⊢
  rw [r.length]
  obtain ⟨j, h1, h2⟩ := Option.bind_eq_some_iff.mp h
  obtain ⟨v, h3, h4⟩ := r.get h2
  exact ⟨v, Option.bind_eq_some_iff.mpr ⟨j, h1, h3⟩, h4⟩
section
variable {G : Gr} {X : Cx} {W : WX} {a b e : Expr} {pos : Pos} {fa fb : F}
theorem e_idx (hK : X.K = G.K) (ha : PE X a (tE G W fa)) (hb : PE X b (tE G W fb)) (hs : PlainIx b) : PE X (.Subscript a b pos) (tE G W (bindF fa fun x => bindF fb fun y => idxF x y)) := by
  refine PE.imp (pe_ix ix_seq ha hb hs) fun σ H Q ⟨τ, m, S, h⟩ => ?_
  refine ⟨τ, m, S, h.seq fun m1 S1 H1 v x e1 sr1 r1 h1 => ⟨τ, m1, S1, h1.seq fun m2 S2 H2 w y e2 sr2 r2 h2 => ?_⟩⟩
  have r1' := r1.mono sr1 e2
  rw [hK]
  obtain ⟨QD, QE, sr, er, hf, k, px⟩ := h2
  unfold idxF at hf
  split at hf
  · rename_i ds i h1
    cases getS_tup h1
    cases r2
    obtain ⟨p, xs, rfl, t1, ra⟩ := r1'.getT rfl
    split at hf
    · rename_i d hd
      obtain ⟨v, h3, h4⟩ := ra.atI hd
      exact .inr (.inl ⟨p, xs, i, v, rfl, rfl, t1, h3, k m2 S2 H2 v d (Ext.refl _ _) sr h4 hf⟩)
    · exact hf.elim
  · rename_i ds i h1
    cases r2
    obtain ⟨p, xs, rfl, t1, ra⟩ := r1'.getL sr h1
    split at hf
    · rename_i d hd
      obtain ⟨v, h3, h4⟩ := ra.atI hd
      exact .inl ⟨p, xs, i, v, rfl, rfl, t1.sq, h3, k m2 S2 H2 v d (Ext.refl _ _) sr h4 hf⟩
    · exact hf.elim
  · rename_i z i h1
    cases getS_str h1
    cases r1'; cases r2
    obtain ⟨hz, hf⟩ := hf
    split at hf
    · rename_i c hc
      exact .inr (.inr ⟨z, i, c, rfl, rfl, hz, hc, k m2 S2 H2 _ _ (Ext.refl _ _) sr (.str _) hf⟩)
    · exact hf.elim
  · exact hf.elim
end

/-! ### slices -/
def cutD {α : Type} (ds : List α) (lo hi : Option Int) : List α := (ds.drop (HT.sIx ds.length 0 lo)).take (HT.sIx ds.length ds.length hi - HT.sIx ds.length 0 lo)
theorem RepAll.cut {G : Gr} {m : Mp} {H : Hp} {xs : List V} {ds : List D} (r : RepAll G m H xs ds) (lo hi : Option Int) : RepAll G m H (cutV xs lo hi) (cutD ds lo hi) := by
  unfold cutV cutD
  rw [r.length]
  exact (r.drop _).take _
theorem cutD_whole {α : Type} {ds : List α} {lo hi : Option Int} (h : HT.sIx ds.length 0 lo = 0 ∧ HT.sIx ds.length ds.length hi = ds.length) : cutD ds lo hi = ds := by
  unfold cutD
  rw [h.1, h.2]
  simp
def slcF (mu : Bool) (x : D) (lo hi : Option Int) : F := fun τ S Q E => match getS S x with
  | .tup ds => Q (.tup (cutD ds lo hi)) S
  | .lst ds => newL mu (cutD ds lo hi) τ S Q E
  | .str z => z.length ≤ sizeLine ∧ Q (.str (cutS z lo hi)) S
  | _ => False
def noF : FG (Option Int) := retF none
def intF (d : D) : FG (Option Int) := fun _ S Q _ => match d with
  | .int i => Q (some i) S
  | _ => False
section
variable {G : Gr} {X : Cx} {W : WX} {a b e : Expr} {pos p2 : Pos} {fa fb : F} {lo hi : Option Expr} {fl fh : FG (Option Int)}
theorem o_none : PO X none (tO G W noF) := ⟨fun pins s σ H Q I ⟨τ, m, S, h⟩ => po_none.run pins s σ H Q I (h.ret m H none (Ext.refl _ _) h.sr rfl)⟩
theorem o_some (h : PE X e (tE G W fa)) : PO X (some e) (tO G W (bindF fa intF)) := ⟨fun pins s σ H Q I ⟨τ, m, S, hA⟩ => (po_some h).run pins s σ H Q I ⟨τ, m, S, hA.seq fun m1 S1 H1 v d e1 sr1 r1 h1 => by
  obtain ⟨QD, QE, sr, er, hf, k, px⟩ := h1
  unfold intF at hf
  split at hf
  · rename_i i
    cases r1
    exact ⟨i, rfl, k m1 S1 H1 _ _ (Ext.refl _ _) sr rfl hf⟩
  · exact hf.elim⟩⟩
theorem e_slc (hK : X.K = G.K) (mu : Bool) (ha : PE X a (tE G W fa)) (hl : PO X lo (tO G W fl)) (hh : PO X hi (tO G W fh)) :
    PE X (.Subscript a (.Slice lo hi none p2) pos) (tE G W (bindF fa fun x => bindF fl fun l => bindF fh fun h => slcF mu x l h)) := by
  refine PE.imp (pe_slice (sl_list.or (sl_tupA.or sl_str)) ha hl hh) fun σ H Q ⟨τ, m, S, h⟩ => ?_
  refine ⟨τ, m, S, h.seq fun m1 S1 H1 v x e1 sr1 r1 h1 => ⟨τ, m1, S1, h1.seq fun m2 S2 H2 l l' e2 sr2 r2 h2 => ⟨τ, m2, S2, h2.seq fun m3 S3 H3 u u' e3 sr3 r3 h3 => ?_⟩⟩⟩
  cases (show l = l' from r2); cases (show u = u' from r3)
  have r1' := (r1.mono sr1 e2).mono sr2 e3
  rw [hK]
  obtain ⟨QD, QE, sr, er, hf, k, px⟩ := h3
  unfold slcF at hf
  split at hf
  · rename_i ds h1
    cases getS_tup h1
    obtain ⟨p, xs, rfl, t1, ra⟩ := r1'.getT rfl
    refine .inr (.inl ⟨p, xs, rfl, t1, fun hw => ?_, fun _ q hq => At.newT (W := W) ⟨QD, QE, sr, er, hf, k, px⟩ hq (ra.cut _ _)⟩)
    rw [ra.length] at hw
    rw [cutD_whole hw] at hf
    exact k m3 S3 H3 _ _ (Ext.refl _ _) sr r1' hf
  · rename_i ds h1
    obtain ⟨p, xs, rfl, t1, ra⟩ := r1'.getL sr h1
    exact .inl ⟨p, xs, rfl, t1.sq, fun q hq => At.newL (W := W) ⟨QD, QE, sr, er, hf, k, px⟩ hq (ra.cut _ _)⟩
  · rename_i z h1
    cases getS_str h1
    cases r1'
    exact .inr (.inr ⟨z, rfl, hf.1, k m3 S3 H3 _ _ (Ext.refl _ _) sr (.str _) hf.2⟩)
  · exact hf.elim
end

/-! ### truth -/
def truD (S : Store) (d : D) : Option Bool := match getS S d with
  | .non => some false
  | .bl b => some b
  | .int i => some (i != 0)
  | .str y => if y.length ≤ sizeLine then some ((y.length : Int) != 0) else none
  | .tup ds => some !ds.isEmpty
  | .lst ds => some !ds.isEmpty
  | _ => none
def truF (d : D) : FG Bool := optF fun S => truD S d
theorem RepAll.empty {G : Gr} {m : Mp} {H : Hp} {xs : List V} {ds : List D} (r : RepAll G m H xs ds) : xs.isEmpty = ds.isEmpty := by cases r <;> rfl
theorem getS_non {S : Store} {d : D} (h : getS S d = .non) : d = .non := by
  cases d with
  | non => rfl
  | obj n => simp only [getS] at h; split at h <;> cases h
  | _ => cases h
theorem Rep.tru {G : Gr} {m : Mp} {S : Store} {H : Hp} {v : V} {d : D} {b : Bool} (sr : SR G m S H) (r : Rep G m H v d) (h : truD S d = some b) : TruV G.K v H b := by
  unfold truD at h
  split at h
  · rename_i q
    cases getS_non q; cases r; cases h; rfl
  · rename_i q
    cases getS_bl q; cases r; cases h; rfl
  · rename_i q
    cases getS_int q; cases r; cases h; rfl
  · rename_i q
    cases getS_str q; cases r
    split at h
    · rename_i hl
      cases h; exact ⟨hl, rfl⟩
    · cases h
  · rename_i q
    cases getS_tup q
    cases h
    obtain ⟨p, xs, rfl, t1, ra⟩ := r.getT rfl
    exact .inr (.inl ⟨xs, t1, by rw [ra.empty]⟩)
  · rename_i q
    cases h
    obtain ⟨p, xs, rfl, t1, ra⟩ := r.getL sr q
    exact .inl ⟨xs, t1.sq, by rw [ra.empty]⟩
  · cases h
section
variable {G : Gr} {X : Cx} {W : WX} {a b c e : Expr} {pos p2 : Pos} {fa fb : F} {ta tb tc : FG Bool} {rest : List Expr}
/-- an expression of any kind as a test -/
theorem t_truth (hK : X.K = G.K) (ha : PE X a (tE G W fa)) (he : ∀ whole, isTrue a X.env whole = (do let v ← whole; standAt a.pos; holding [v] (truthy v))) : PT X a (tT G W (bindF fa truF)) :=
  PT.imp (pt_truth ha he) fun σ H Q ⟨τ, m, S, h⟩ => ⟨τ, m, S, h.seq fun m1 S1 H1 v x e1 sr1 r1 h1 => by
    obtain ⟨b, hb, k⟩ := h1.fin
    exact ⟨b, by rw [hK]; exact r1.tru h1.sr hb, k m1 H1 b (Ext.refl _ _) h1.sr rfl⟩⟩
theorem t_cmp {op : CmpOp} {g : D → D → F} (ho : OpF G X (compareOp op) g) (hg : ∀ x y τ S Q E, g x y τ S Q E → g x y τ S (fun d S' => ∃ b, d = .bl b ∧ Q d S') E) (ha : PE X a (tE G W fa)) (hb : PE X b (tE G W fb)) (hm : behindInMarks op b = false) :
    PT X (.Compare a [op] [b] pos) (tT G W (bindF fa fun x => bindF fb fun y => bindF (g x y) truF)) := by
  obtain ⟨r, hr, k⟩ := ho
  refine PT.imp (pt_cmpR hr ha hb hm) fun σ H Q ⟨τ, m, S, h⟩ => ?_
  refine ⟨τ, m, S, h.seq fun m1 S1 H1 v d e1 sr1 r1 h1 => ⟨τ, m1, S1, h1.seq fun m2 S2 H2 w d' e2 sr2 r2 h2 => ?_⟩⟩
  refine k W τ m2 S2 σ H2 _ v w d d' (r1.mono sr1 e2) r2 ?_
  obtain ⟨QD, QE, sr, er, hf, kk, px⟩ := h2
  refine ⟨_, QE, sr, er, hg _ _ _ _ _ _ hf, fun m3 S3 H3 u x e3 sr3 r3 q3 => ?_, px⟩
  obtain ⟨b, rfl, q3⟩ := q3
  cases r3
  exact ⟨b, rfl, kk m3 S3 H3 b b e3 sr3 rfl q3⟩
/-- not -/
def notF (f : FG Bool) : FG Bool := bindF f fun b => retF !b
theorem t_not (ha : PT X a (tT G W ta)) : PT X (.UnaryOp .Not a pos) (tT G W (notF ta)) :=
  PT.imp (pt_not ha) fun σ H Q ⟨τ, m, S, h⟩ => ⟨τ, m, S, h.seq fun m1 S1 H1 v x e1 sr1 r1 h1 => by
    cases (show v = x from r1)
    exact h1.ret m1 H1 _ (Ext.refl _ _) h1.sr rfl⟩
/-- and, or -/
def andF (f g : FG Bool) : FG Bool := bindF f fun b => if b = true then g else retF false
def orF (f g : FG Bool) : FG Bool := bindF f fun b => if b = true then retF true else g
theorem w_one_and (ha : PT X a (tT G W ta)) : PW X (.BoolOp .And [a] pos) (tT G W ta) := pw_and1 ha
theorem w_one_or (ha : PT X a (tT G W ta)) : PW X (.BoolOp .Or [a] pos) (tT G W ta) := pw_or1 ha
theorem w_and (ha : PT X a (tT G W ta)) (hb : PW X (.BoolOp .And (b :: rest) pos) (tT G W tb)) : PW X (.BoolOp .And (a :: b :: rest) pos) (tT G W (andF ta tb)) :=
  PW.imp (pw_and ha hb) fun σ H Q ⟨τ, m, S, h⟩ => ⟨τ, m, S, h.seq fun m1 S1 H1 v x e1 sr1 r1 h1 => by
    cases (show v = x from r1)
    cases v with
    | true => exact iteT ⟨τ, m1, S1, h1⟩
    | false => exact iteF (h1.ret m1 H1 _ (Ext.refl _ _) h1.sr rfl)⟩
theorem w_or (ha : PT X a (tT G W ta)) (hb : PW X (.BoolOp .Or (b :: rest) pos) (tT G W tb)) : PW X (.BoolOp .Or (a :: b :: rest) pos) (tT G W (orF ta tb)) :=
  PW.imp (pw_or ha hb) fun σ H Q ⟨τ, m, S, h⟩ => ⟨τ, m, S, h.seq fun m1 S1 H1 v x e1 sr1 r1 h1 => by
    cases (show v = x from r1)
    cases v with
    | true => exact iteT (h1.ret m1 H1 _ (Ext.refl _ _) h1.sr rfl)
    | false => exact iteF ⟨τ, m1, S1, h1⟩⟩
/-- .. as values -/
def andV (f g : F) : F := bindF f fun d => bindF (truF d) fun b => if b = true then g else retF d
def orV (f g : F) : F := bindF f fun d => bindF (truF d) fun b => if b = true then retF d else g
def notV (f : F) : F := bindF f fun d => bindF (truF d) fun b => retF (.bl !b)
theorem e_andV (hK : X.K = G.K) (ha : PE X a (tE G W fa)) (hb : PE X (.BoolOp .And (b :: rest) pos) (tE G W fb)) : PE X (.BoolOp .And (a :: b :: rest) pos) (tE G W (andV fa fb)) :=
  PE.imp (pe_andT ha hb) fun σ H Q ⟨τ, m, S, h⟩ => ⟨τ, m, S, h.seq fun m1 S1 H1 v x e1 sr1 r1 h1 => by
    obtain ⟨b, hb, h2⟩ := h1.opt
    refine ⟨b, by rw [hK]; exact r1.tru sr1 hb, ?_⟩
    cases b with
    | true => rw [if_pos rfl] at h2; exact iteT ⟨τ, m1, S1, h2⟩
    | false => rw [if_neg Bool.false_ne_true] at h2; exact iteF (h2.ret m1 H1 _ (Ext.refl _ _) sr1 r1)⟩
theorem e_orV (hK : X.K = G.K) (ha : PE X a (tE G W fa)) (hb : PE X (.BoolOp .Or (b :: rest) pos) (tE G W fb)) : PE X (.BoolOp .Or (a :: b :: rest) pos) (tE G W (orV fa fb)) :=
  PE.imp (pe_orT ha hb) fun σ H Q ⟨τ, m, S, h⟩ => ⟨τ, m, S, h.seq fun m1 S1 H1 v x e1 sr1 r1 h1 => by
    obtain ⟨b, hb, h2⟩ := h1.opt
    refine ⟨b, by rw [hK]; exact r1.tru sr1 hb, ?_⟩
    cases b with
    | true => rw [if_pos rfl] at h2; exact iteT (h2.ret m1 H1 _ (Ext.refl _ _) sr1 r1)
    | false => rw [if_neg Bool.false_ne_true] at h2; exact iteF ⟨τ, m1, S1, h2⟩⟩
theorem e_notV (hK : X.K = G.K) (ha : PE X a (tE G W fa)) : PE X (.UnaryOp .Not a pos) (tE G W (notV fa)) :=
  PE.imp (pe_notT ha) fun σ H Q ⟨τ, m, S, h⟩ => ⟨τ, m, S, h.seq fun m1 S1 H1 v x e1 sr1 r1 h1 => by
    obtain ⟨b, hb, h2⟩ := h1.opt
    exact ⟨b, by rw [hK]; exact r1.tru sr1 hb, h2.ret m1 H1 _ (Ext.refl _ _) sr1 (.bl _)⟩⟩
/-- a if t else b -/
def iteV {β : Type} (t : FG Bool) (f g : FG β) : FG β := bindF t fun b => if b = true then f else g
theorem e_ife (hc : PT X c (tT G W tc)) (ha : PE X a (tE G W fa)) (hb : PE X b (tE G W fb)) : PE X (.IfExp c a b pos) (tE G W (iteV tc fa fb)) :=
  PE.imp (pe_ifExp hc ha hb) fun σ H Q ⟨τ, m, S, h⟩ => ⟨τ, m, S, h.seq fun m1 S1 H1 v x e1 sr1 r1 h1 => by
    cases (show v = x from r1)
    cases v with
    | true => exact iteT ⟨τ, m1, S1, h1⟩
    | false => exact iteF ⟨τ, m1, S1, h1⟩⟩
theorem e_neg (ha : PE X a (tE G W fa)) : PE X (.UnaryOp .USub a pos) (tE G W (bindF fa fun x => optF fun _ => match x with | .int i => some (.int (-i)) | _ => none)) :=
  PE.imp (pe_un un_neg ha) fun σ H Q ⟨τ, m, S, h⟩ => ⟨τ, m, S, h.seq fun m1 S1 H1 v x e1 sr1 r1 h1 => by
    obtain ⟨d, hd, k⟩ := h1.fin
    split at hd
    · cases hd; cases r1
      exact ⟨_, rfl, k m1 H1 _ (Ext.refl _ _) sr1 (.int _)⟩
    · cases hd⟩
/-- a < b < c -/
def chF (g g' : D → D → F) (fa fb fc : F) : F := bindF fa fun x => bindF fb fun y => bindF (g x y) fun z => bindF (optF fun _ => match z with | .bl b => some b | _ => none) fun k => if k = true then bindF fc fun u => g' y u else retF (.bl false)
def chT (g g' : D → D → F) (fa fb fc : F) : FG Bool := bindF fa fun x => bindF fb fun y => bindF (g x y) fun z => bindF (optF fun _ => match z with | .bl b => some b | _ => none) fun k => if k = true then bindF fc fun u => bindF (g' y u) truF else retF false
end

/-! ### argument lists, displays -/
def nilF : FG (List D) := retF []
def consF (f : F) (g : FG (List D)) : FG (List D) := bindF f fun x => bindF g fun xs => retF (x :: xs)
section
variable {G : Gr} {X : Cx} {W : WX} {e : Expr} {es : List Expr} {pos : Pos} {f : F} {g : FG (List D)}
theorem a_nil : PA X [] (tA G W nilF) := PA.imp pa_nil fun σ H Q ⟨τ, m, S, h⟩ => h.ret m H [] (Ext.refl _ _) h.sr .nil
theorem a_cons (ha : PE X e (tE G W f)) (hr : PA X es (tA G W g)) (hs : starEach (e :: es) X.env = (false, eval e X.env) :: starEach es X.env) : PA X (e :: es) (tA G W (consF f g)) :=
  PA.imp (pa_cons ha hr hs) fun σ H Q ⟨τ, m, S, h⟩ => ⟨τ, m, S, h.seq fun m1 S1 H1 v x e1 sr1 r1 h1 => ⟨τ, m1, S1, h1.seq fun m2 S2 H2 vs xs e2 sr2 r2 h2 => h2.ret m2 H2 _ (Ext.refl _ _) sr2 (.cons (r1.mono sr1 e2) r2)⟩⟩
def lenF (n : Nat) : FG Unit := fun _ S Q _ => n ≤ sizeLine ∧ Q () S
theorem e_tup {x1} (h : PA X es (tA G W g)) : PE X (.Tuple es x1 pos) (tE G W (bindF g fun ds τ S Q E => ds.length ≤ sizeLine ∧ Q (.tup ds) S)) :=
  PE.imp (pe_tup h) fun σ H Q ⟨τ, m, S, hA⟩ => ⟨τ, m, S, hA.seq fun m1 S1 H1 vs ds e1 sr1 r1 h1 => by
    obtain ⟨QD, QE, sr, er, hf, k, px⟩ := h1
    exact ⟨by rw [r1.length]; exact hf.1, fun p hp => At.newT (W := W) ⟨QD, QE, sr, er, hf.2, k, px⟩ hp r1⟩⟩
theorem e_lst (mu : Bool) (h : PA X es (tA G W g)) : PE X (.List es pos) (tE G W (bindF g fun ds τ S Q E => ds.length ≤ sizeLine ∧ newL mu ds τ S Q E)) :=
  PE.imp (pe_lst h) fun σ H Q ⟨τ, m, S, hA⟩ => ⟨τ, m, S, hA.seq fun m1 S1 H1 vs ds e1 sr1 r1 h1 => by
    obtain ⟨QD, QE, sr, er, hf, k, px⟩ := h1
    exact ⟨by rw [r1.length]; exact hf.1, fun p hp => At.newL (W := W) ⟨QD, QE, sr, er, hf.2, k, px⟩ hp r1⟩⟩
/-- a list of the store told as a value -/
def frzF (d : D) : F := fun _ S Q _ => match d with
  | .obj n => (match S[n]? with | some (.lst ds) => Q (.lst ds) (S.set n .dead) | _ => False)
  | _ => False
theorem e_frz (h : PE X e (tE G W f)) : PE X e (tE G W (bindF f frzF)) := ⟨fun pins s σ H Q I ⟨τ, m, S, hA⟩ => h.run pins s σ H Q I ⟨τ, m, S, hA.seq fun m1 S1 H1 v d e1 sr1 r1 h1 => by
  obtain ⟨QD, QE, sr, er, hf, k, px⟩ := h1
  unfold frzF at hf
  split at hf
  · rename_i n
    split at hf
    · rename_i ds hs
      cases r1 with
      | @obj _ a h1 h2 =>
        cases q : m1.sl[n]? with
        | none => rw [List.getElem?_eq_none_iff] at q; omega
        | some o =>
          cases o with
          | none =>
            have z := sr.dead n q
            rw [hs] at z; cases z
          | some b =>
            have e := h2 b q
            subst e
            exact k (m1.kill n) (S1.set n .dead) H1 _ _ Ext.frozen sr.frozen (rep_frozen sr q hs) hf
    · exact hf.elim
  · exact hf.elim⟩⟩
end

/-! ### built-ins by name -/
/-- what a built-in makes of its arguments -/
def BF (G : Gr) (X : Cx) (f : Value) (g : List D → F) : Prop :=
  ∃ r, CallR X f r ∧ ∀ (W : WX) (τ : Env) (m : Mp) (S : Store) (σ : L2.St) (H : Hp) (Q : VK) (vs : List V) (ds : List D), RepAll G m H vs ds → At G (rV G) W (g ds) τ m S σ H Q → r vs H Q
section
variable {G : Gr} {X : Cx} {W : WX} {x : Str} {p pos : Pos} {e : Expr} {es : List Expr} {fa : FG (List D)} {g : List D → F} {id T : String}
theorem tCB_imp {r : List V → Hp → VK → Prop} (k : ∀ (W : WX) (τ : Env) (m : Mp) (S : Store) (σ : L2.St) (H : Hp) (Q : VK) (vs : List V) (ds : List D), RepAll G m H vs ds → At G (rV G) W (g ds) τ m S σ H Q → r vs H Q) (σ : L2.St) (H : Hp) (Q : VK)
    (h : tE G W (bindF fa g) σ H Q) : tCB r (tA G W fa) σ H Q := by
  obtain ⟨τ, m, S, h⟩ := h
  exact ⟨τ, m, S, h.seq fun m1 S1 H1 vs ds e1 sr1 r1 h1 => k W τ m1 S1 σ H1 Q vs ds r1 h1⟩
theorem e_callB (hc : BF G X (.builtin id) g) (hg : Gl X x) (hm : X.mg x = none) (hv : bootBuiltins x = some (.builtin id)) (ha : PA X (e :: es) (tA G W fa)) (hn : x ≠ "__name__") (hdb : (x == ("__debug__" : Str)) = false)
    (he : starEach (e :: es) X.env = (false, eval e X.env) :: starEach es X.env) (hpl : (backTo pos (starEach es X.env)).any (·.1) = false) : PE X (.Call (.Name x p) (e :: es) [] pos) (tE G W (bindF fa g)) := by
  obtain ⟨r, hr, k⟩ := hc
  exact PE.imp (pe_callB hr hg hm hv ha hn hdb he hpl) (tCB_imp k)
theorem e_callTy (hc : BF G X (.type T) g) (hg : Gl X x) (hm : X.mg x = none) (hv : bootBuiltins x = some (.type T)) (ha : PA X (e :: es) (tA G W fa)) (hn : x ≠ "__name__") (hdb : (x == ("__debug__" : Str)) = false)
    (he : starEach (e :: es) X.env = (false, eval e X.env) :: starEach es X.env) (hpl : (backTo pos (starEach es X.env)).any (·.1) = false) : PE X (.Call (.Name x p) (e :: es) [] pos) (tE G W (bindF fa g)) := by
  obtain ⟨r, hr, k⟩ := hc
  exact PE.imp (pe_callTy hr hg hm hv ha hn hdb he hpl) (tCB_imp k)
theorem e_callBfun (hc : BF G X (.builtin id) g) (hg : Gl X x) (hm : X.mg x = some (.builtin id)) (ha : PA X (e :: es) (tA G W fa)) (hdb : (x == ("__debug__" : Str)) = false)
    (he : starEach (e :: es) X.env = (false, eval e X.env) :: starEach es X.env) (hpl : (backTo pos (starEach es X.env)).any (·.1) = false) : PE X (.Call (.Name x p) (e :: es) [] pos) (tE G W (bindF fa g)) := by
  obtain ⟨r, hr, k⟩ := hc
  exact PE.imp (pe_callBfun hr hg hm ha hdb he hpl) (tCB_imp k)
end
end Dx

set_option Elab.async false
set_option linter.all false
set_option maxRecDepth 100000
set_option maxHeartbeats 4000000
/-! DX, part 6: built-in functions. -/
namespace Dx
open PySem PySem.Spec PyProof.Rows L2

section
variable {G : Gr} {X : Cx}
/-! abs, int, bool, gcd, str -/
def absB (ds : List D) : F := optF fun _ => match ds with
  | [.int i] => some (.int (if i < 0 then -i else i))
  | _ => none
theorem bf_abs : BF G X (.builtin "abs") absB := by
  refine ⟨_, call_abs, fun W τ m S σ H Q vs ds r hA => ?_⟩
  obtain ⟨d, hd, k⟩ := hA.fin
  split at hd
  · cases hd
    cases r with
    | cons a r => cases r; cases a; exact ⟨_, rfl, k m H _ (Ext.refl _ _) hA.sr (.int _)⟩
  · cases hd
def intB (ds : List D) : F := optF fun _ => match ds with
  | [.int i] => some (.int i)
  | [.bl b] => some (.int (if b then 1 else 0))
  | _ => none
theorem bf_int : BF G X (.type "int") intB := by
  refine ⟨_, call_int1, fun W τ m S σ H Q vs ds r hA => ?_⟩
  obtain ⟨d, hd, k⟩ := hA.fin
  split at hd
  · cases hd
    cases r with
    | cons a r => cases r; cases a; exact .inl ⟨_, rfl, k m H _ (Ext.refl _ _) hA.sr (.int _)⟩
  · cases hd
    cases r with
    | cons a r => cases r; cases a; exact .inr ⟨_, rfl, k m H _ (Ext.refl _ _) hA.sr (.int _)⟩
  · cases hd
def gcdB (ds : List D) : F := optF fun _ => match ds with
  | [.int i, .int j] => some (.int ((Nat.gcd i.natAbs j.natAbs : Nat) : Int))
  | _ => none
theorem bf_gcd : BF G X (.builtin "math.gcd") gcdB := by
  refine ⟨_, cr_gcd, fun W τ m S σ H Q vs ds r hA => ?_⟩
  obtain ⟨d, hd, k⟩ := hA.fin
  split at hd
  · cases hd
    cases r with
    | cons a r =>
      cases r with
      | cons b r => cases r; cases a; cases b; exact ⟨_, _, rfl, k m H _ (Ext.refl _ _) hA.sr (.int _)⟩
  · cases hd
def strB (ds : List D) : F := optF fun _ => match ds with
  | [.int i] => if i.natAbs.log2 < 1920 then some (.str (toString i)) else none
  | _ => none
theorem bf_str : BF G X (.type "str") strB := by
  refine ⟨_, call_str_int, fun W τ m S σ H Q vs ds r hA => ?_⟩
  obtain ⟨d, hd, k⟩ := hA.fin
  split at hd
  · split at hd
    · rename_i hl
      cases hd
      cases r with
      | cons a r => cases r; cases a; exact ⟨_, rfl, hl, k m H _ (Ext.refl _ _) hA.sr (.str _)⟩
    · cases hd
  · cases hd
/-! len -/
def lenB (ds : List D) : F := optF fun S => match ds with
  | [d] => (match getS S d with
    | .tup xs => some (.int xs.length)
    | .lst xs => some (.int xs.length)
    | .str z => if z.length ≤ sizeLine then some (.int z.length) else none
    | _ => none)
  | _ => none
theorem bf_len (hK : X.K = G.K) : BF G X (.builtin "len") lenB := by
  refine ⟨_, call_len_seq.or call_len_str, fun W τ m S σ H Q vs ds r hA => ?_⟩
  obtain ⟨d, hd, k⟩ := hA.fin
  split at hd
  · cases r with
    | cons a r =>
      cases r
      split at hd
      · rename_i q
        cases getS_tup q
        cases hd
        obtain ⟨p, xs, rfl, t1, ra⟩ := a.getT rfl
        exact .inl ⟨p, xs, rfl, .inr (hK ▸ t1), k m H _ (Ext.refl _ _) hA.sr (by rw [ra.length]; exact .int _)⟩
      · rename_i q
        cases hd
        obtain ⟨p, xs, rfl, t1, ra⟩ := a.getL hA.sr q
        exact .inl ⟨p, xs, rfl, .inl (hK ▸ t1.sq), k m H _ (Ext.refl _ _) hA.sr (by rw [ra.length]; exact .int _)⟩
      · rename_i q
        cases getS_str q
        split at hd
        · rename_i hl
          cases hd
          cases a
          exact .inr ⟨_, rfl, hl, k m H _ (Ext.refl _ _) hA.sr (.int _)⟩
        · cases hd
      · cases hd
  · cases hd
/-! tuple(x), list(x) -/
def tupB (ds : List D) : F := fun _ S Q _ => match ds with
  | [d] => (match getS S d with
    | .tup xs => Q (.tup xs) S
    | .lst xs => Q (.tup xs) S
    | _ => False)
  | _ => False
theorem bf_tup (hK : X.K = G.K) : BF G X (.type "tuple") tupB := by
  refine ⟨_, call_tuple_of, fun W τ m S σ H Q vs ds r hA => ?_⟩
  obtain ⟨QD, QE, sr, er, hf, k, px⟩ := hA
  unfold tupB at hf
  split at hf
  · cases r with
    | cons a r =>
      cases r
      split at hf
      · rename_i q
        cases getS_tup q
        obtain ⟨p, xs, rfl, t1, ra⟩ := a.getT rfl
        exact ⟨p, xs, rfl, .inr ⟨hK ▸ t1, k m S H _ _ (Ext.refl _ _) sr a hf⟩⟩
      · rename_i q
        obtain ⟨p, xs, rfl, t1, ra⟩ := a.getL sr q
        exact ⟨p, xs, rfl, .inl ⟨hK ▸ t1.sq, fun l hl => At.newT (W := W) ⟨QD, QE, sr, er, hf, k, px⟩ hl ra⟩⟩
      · exact hf.elim
  · exact hf.elim
def lstB (mu : Bool) (ds : List D) : F := fun τ S Q E => match ds with
  | [d] => (match getS S d with
    | .tup xs => newL mu xs τ S Q E
    | .lst xs => newL mu xs τ S Q E
    | _ => False)
  | _ => False
theorem bf_lst (hK : X.K = G.K) (mu : Bool) : BF G X (.type "list") (lstB mu) := by
  refine ⟨_, call_list_of, fun W τ m S σ H Q vs ds r hA => ?_⟩
  obtain ⟨QD, QE, sr, er, hf, k, px⟩ := hA
  unfold lstB at hf
  split at hf
  · cases r with
    | cons a r =>
      cases r
      split at hf
      · rename_i q
        cases getS_tup q
        obtain ⟨p, xs, rfl, t1, ra⟩ := a.getT rfl
        exact ⟨p, xs, rfl, .inr (hK ▸ t1), fun l hl => At.newL (W := W) ⟨QD, QE, sr, er, hf, k, px⟩ hl ra⟩
      · rename_i q
        obtain ⟨p, xs, rfl, t1, ra⟩ := a.getL sr q
        exact ⟨p, xs, rfl, .inl (hK ▸ t1.sq), fun l hl => At.newL (W := W) ⟨QD, QE, sr, er, hf, k, px⟩ hl ra⟩
      · exact hf.elim
  · exact hf.elim
/-! all, any, sum, max, min -/
def asBl : D → Option Bool
  | .bl b => some b
  | _ => none
def asInt : D → Option Int
  | .int b => some b
  | _ => none
def allSome {α : Type} (f : D → Option α) : List D → Option (List α)
  | [] => some []
  | d :: ds => (f d).bind fun b => (allSome f ds).map fun bs => b :: bs
theorem allSome_bl {m : Mp} {H : Hp} : ∀ {xs : List V} {ds : List D} {bs : List Bool}, RepAll G m H xs ds → allSome asBl ds = some bs → xs = bs.map V.bl
  | _, _, _, .nil, h => by cases h; rfl
  | _, _, _, .cons a r, h => by
    unfold allSome at h
    obtain ⟨b, h1, h2⟩ := Option.bind_eq_some_iff.mp h
    obtain ⟨bs, h3, rfl⟩ := Option.map_eq_some_iff.mp h2
    rw [allSome_bl r h3]
    cases a <;> cases h1
    rfl
theorem allSome_int {m : Mp} {H : Hp} : ∀ {xs : List V} {ds : List D} {bs : List Int}, RepAll G m H xs ds → allSome asInt ds = some bs → xs = bs.map V.int
  | _, _, _, .nil, h => by cases h; rfl
  | _, _, _, .cons a r, h => by
    unfold allSome at h
    obtain ⟨b, h1, h2⟩ := Option.bind_eq_some_iff.mp h
    obtain ⟨bs, h3, rfl⟩ := Option.map_eq_some_iff.mp h2
    rw [allSome_int r h3]
    cases a <;> cases h1
    rfl
def allB (ds : List D) : F := optF fun S => match ds with
  | [d] => (match getS S d with
    | .lst xs => (allSome asBl xs).map fun bs => .bl (bs.all id)
    | _ => none)
  | _ => none
def anyB (ds : List D) : F := optF fun S => match ds with
  | [d] => (match getS S d with
    | .lst xs => (allSome asBl xs).map fun bs => .bl (bs.any id)
    | _ => none)
  | _ => none
theorem bf_all (hK : X.K = G.K) (hc : X.calm = true) : BF G X (.builtin "all") allB := by
  refine ⟨_, cr_all hc, fun W τ m S σ H Q vs ds r hA => ?_⟩
  obtain ⟨d, hd, k⟩ := hA.fin
  split at hd
  · cases r with
    | cons a r =>
      cases r
      split at hd
      · rename_i q
        obtain ⟨bs, h1, rfl⟩ := Option.map_eq_some_iff.mp hd
        obtain ⟨p, xs, rfl, t1, ra⟩ := a.getL hA.sr q
        cases allSome_bl ra h1
        exact ⟨p, bs, rfl, hK ▸ t1.sq, k m H _ (Ext.refl _ _) hA.sr (.bl _)⟩
      · cases hd
  · cases hd
theorem bf_any (hK : X.K = G.K) (hc : X.calm = true) : BF G X (.builtin "any") anyB := by
  refine ⟨_, cr_any hc, fun W τ m S σ H Q vs ds r hA => ?_⟩
  obtain ⟨d, hd, k⟩ := hA.fin
  split at hd
  · cases r with
    | cons a r =>
      cases r
      split at hd
      · rename_i q
        obtain ⟨bs, h1, rfl⟩ := Option.map_eq_some_iff.mp hd
        obtain ⟨p, xs, rfl, t1, ra⟩ := a.getL hA.sr q
        cases allSome_bl ra h1
        exact ⟨p, bs, rfl, hK ▸ t1.sq, k m H _ (Ext.refl _ _) hA.sr (.bl _)⟩
      · cases hd
  · cases hd
def sumB (ds : List D) : F := optF fun S => match ds with
  | [d] => (match getS S d with
    | .lst xs => (allSome asInt xs).map fun bs => .int bs.sum
    | _ => none)
  | _ => none
theorem bf_sum (hK : X.K = G.K) (hc : X.calm = true) : BF G X (.builtin "sum") sumB := by
  refine ⟨_, cr_sum hc, fun W τ m S σ H Q vs ds r hA => ?_⟩
  obtain ⟨d, hd, k⟩ := hA.fin
  split at hd
  · cases r with
    | cons a r =>
      cases r
      split at hd
      · rename_i q
        obtain ⟨bs, h1, rfl⟩ := Option.map_eq_some_iff.mp hd
        obtain ⟨p, xs, rfl, t1, ra⟩ := a.getL hA.sr q
        cases allSome_int ra h1
        exact ⟨p, bs, rfl, hK ▸ t1.sq, k m H _ (Ext.refl _ _) hA.sr (.int _)⟩
      · cases hd
  · cases hd
/-- the greatest, the least of ints -/
def maxL : Int → List Int → Int
  | a, [] => a
  | a, b :: r => maxL (if b > a then b else a) r
def minL : Int → List Int → Int
  | a, [] => a
  | a, b :: r => minL (if b < a then b else a) r
theorem maxL_ge : ∀ (r : List Int) (a : Int), a ≤ maxL a r ∧ (∀ y ∈ r, y ≤ maxL a r) ∧ (maxL a r = a ∨ maxL a r ∈ r)
  | [], a => ⟨Int.le_refl _, fun y h => (nomatch h), .inl rfl⟩
  | b :: r, a => by
    obtain ⟨h1, h2, h3⟩ := maxL_ge r (if b > a then b else a)
    unfold maxL
    refine ⟨?_, fun y hy => ?_, ?_⟩
    · split at h1 <;> split <;> omega
    · rcases List.mem_cons.mp hy with rfl | hy
      · split at h1 <;> split <;> omega
      · exact h2 y hy
    · rcases h3 with h3 | h3
      · rw [h3]
        split
        · exact .inr List.mem_cons_self
        · exact .inl rfl
      · exact .inr (List.mem_cons_of_mem _ h3)
theorem minL_le : ∀ (r : List Int) (a : Int), minL a r ≤ a ∧ (∀ y ∈ r, minL a r ≤ y) ∧ (minL a r = a ∨ minL a r ∈ r)
  | [], a => ⟨Int.le_refl _, fun y h => (nomatch h), .inl rfl⟩
  | b :: r, a => by
    obtain ⟨h1, h2, h3⟩ := minL_le r (if b < a then b else a)
    unfold minL
    refine ⟨?_, fun y hy => ?_, ?_⟩
    · split at h1 <;> split <;> omega
    · rcases List.mem_cons.mp hy with rfl | hy
      · split at h1 <;> split <;> omega
      · exact h2 y hy
    · rcases h3 with h3 | h3
      · rw [h3]
        split
        · exact .inr List.mem_cons_self
        · exact .inl rfl
      · exact .inr (List.mem_cons_of_mem _ h3)
def maxB (ds : List D) : F := optF fun S => match ds with
  | [.int i, .int j] => some (.int (if j > i then j else i))
  | [d] => (match getS S d with
    | .lst xs => (match allSome asInt xs with
      | some (a :: r) => some (.int (maxL a r))
      | _ => none)
    | _ => none)
  | _ => none
def minB (ds : List D) : F := optF fun S => match ds with
  | [.int i, .int j] => some (.int (if j < i then j else i))
  | [d] => (match getS S d with
    | .lst xs => (match allSome asInt xs with
      | some (a :: r) => some (.int (minL a r))
      | _ => none)
    | _ => none)
  | _ => none
theorem bf_max (hK : X.K = G.K) (hc : X.calm = true) : BF G X (.builtin "max") maxB := by
  refine ⟨_, (call_max2 hc).or (cr_max hc), fun W τ m S σ H Q vs ds r hA => ?_⟩
  obtain ⟨d, hd, k⟩ := hA.fin
  split at hd
  · cases hd
    cases r with
    | cons a r =>
      cases r with
      | cons b r => cases r; cases a; cases b; exact .inl ⟨_, _, rfl, k m H _ (Ext.refl _ _) hA.sr (.int _)⟩
  · cases r with
    | cons a r =>
      cases r
      split at hd
      · rename_i q
        split at hd
        · rename_i z rr h1
          cases hd
          obtain ⟨p, xs, rfl, t1, ra⟩ := a.getL hA.sr q
          cases allSome_int ra h1
          refine .inr ⟨p, z :: rr, rfl, hK ▸ t1.sq, by simp, fun mx hm hle => ?_⟩
          obtain ⟨g1, g2, g3⟩ := maxL_ge rr z
          have e : mx = maxL z rr := by
            have a1 : maxL z rr ∈ z :: rr := by
              rcases g3 with g3 | g3
              · rw [g3]; exact List.mem_cons_self
              · exact List.mem_cons_of_mem _ g3
            have a2 := hle _ a1
            rcases List.mem_cons.mp hm with rfl | hm
            · omega
            · have := g2 mx hm; omega
          rw [e]
          exact k m H _ (Ext.refl _ _) hA.sr (.int _)
        · cases hd
      · cases hd
  · cases hd
theorem bf_min (hK : X.K = G.K) (hc : X.calm = true) : BF G X (.builtin "min") minB := by
  refine ⟨_, (call_min2 hc).or (cr_min hc), fun W τ m S σ H Q vs ds r hA => ?_⟩
  obtain ⟨d, hd, k⟩ := hA.fin
  split at hd
  · cases hd
    cases r with
    | cons a r =>
      cases r with
      | cons b r => cases r; cases a; cases b; exact .inl ⟨_, _, rfl, k m H _ (Ext.refl _ _) hA.sr (.int _)⟩
  · cases r with
    | cons a r =>
      cases r
      split at hd
      · rename_i q
        split at hd
        · rename_i z rr h1
          cases hd
          obtain ⟨p, xs, rfl, t1, ra⟩ := a.getL hA.sr q
          cases allSome_int ra h1
          refine .inr ⟨p, z :: rr, rfl, hK ▸ t1.sq, by simp, fun mx hm hle => ?_⟩
          obtain ⟨g1, g2, g3⟩ := minL_le rr z
          have e : mx = minL z rr := by
            have a1 : minL z rr ∈ z :: rr := by
              rcases g3 with g3 | g3
              · rw [g3]; exact List.mem_cons_self
              · exact List.mem_cons_of_mem _ g3
            have a2 := hle _ a1
            rcases List.mem_cons.mp hm with rfl | hm
            · omega
            · have := g2 mx hm; omega
          rw [e]
          exact k m H _ (Ext.refl _ _) hA.sr (.int _)
        · cases hd
      · cases hd
  · cases hd
end

/-! isinstance -/
def tyD (S : Store) (d : D) : Option String := match getS S d with
  | .non => some "NoneType"
  | .bl _ => some "bool"
  | .int _ => some "int"
  | .str _ => some "str"
  | .tup _ => some "tuple"
  | .lst _ => some "list"
  | _ => none
def isiT (t c : String) : Option Bool :=
  if ["NoneType", "bool", "int", "str", "tuple", "list"].contains t && ["bool", "int", "str", "tuple", "list"].contains c then some (t == c || (t == "bool" && c == "int")) else none
theorem isiT_kit {t c : String} {b : Bool} (h : isiT t c = some b) : kitB t c = some b := by
  unfold isiT at h
  split at h
  · rename_i hc
    cases h
    simp only [Bool.and_eq_true, List.contains_eq_mem, decide_eq_true_eq, List.mem_cons, List.not_mem_nil, or_false] at hc
    obtain ⟨h1, h2⟩ := hc
    rcases h1 with rfl | rfl | rfl | rfl | rfl | rfl <;> rcases h2 with rfl | rfl | rfl | rfl | rfl <;> decide +kernel
  · cases h
def isiB (ds : List D) : F := optF fun S => match ds with
  | [d, .ty c] => (tyD S d).bind fun t => (isiT t c).map fun b => .bl b
  | _ => none
section
variable {G : Gr} {X : Cx}
theorem Rep.tyx {m : Mp} {S : Store} {H : Hp} {v : V} {d : D} {t : String} (sr : SR G m S H) (r : Rep G m H v d) (h : tyD S d = some t) : TyX G.K H v (.type t) := by
  unfold tyD at h
  split at h
  · rename_i q; cases getS_non q; cases r; cases h; exact .base .non
  · rename_i q; cases getS_bl q; cases r; cases h; exact .base (.bl _)
  · rename_i q; cases getS_int q; cases r; cases h; exact .base (.int _)
  · rename_i q; cases getS_str q; cases r; cases h; exact .base (.str _)
  · rename_i q
    cases getS_tup q; cases h
    obtain ⟨p, xs, rfl, t1, ra⟩ := r.getT rfl
    rcases t1 with (t1 | ⟨o, t1⟩) | ⟨o, its, n, h1, h2, _⟩
    · exact .base (.tup t1)
    · exact .fTuple t1
    · exact .kTuple h1 h2
  · rename_i q
    cases h
    obtain ⟨p, xs, rfl, t1, ra⟩ := r.getL sr q
    rcases t1 with (t1 | ⟨o, t1⟩) | ⟨its, n, h1, h2, _⟩
    · exact .base (.lst t1)
    · exact .base (.frz t1)
    · exact .kList h1 rfl
  · cases h
theorem bf_isi (hK : X.K = G.K) : BF G X (.builtin "isinstance") isiB := by
  refine ⟨_, call_isi, fun W τ m S σ H Q vs ds r hA => ?_⟩
  obtain ⟨d, hd, k⟩ := hA.fin
  split at hd
  · obtain ⟨t, h1, h2⟩ := Option.bind_eq_some_iff.mp hd
    obtain ⟨b, h3, rfl⟩ := Option.map_eq_some_iff.mp h2
    cases r with
    | cons a r =>
      cases r with
      | cons c r =>
        cases r; cases c
        exact ⟨_, _, .type t, _, b, rfl, .ty _, hK ▸ a.tyx hA.sr h1, kit_ty (isiT_kit h3), k m H _ (Ext.refl _ _) hA.sr (.bl _)⟩
  · cases hd
end

/-! ### a < b < c -/
section
variable {G : Gr} {X : Cx} {W : WX} {a b c e : Expr} {pos p2 : Pos} {fa fb fc : F}
theorem e_chain {op op' : CmpOp} {g g' : D → D → F} (ho : OpF G X (compareOp op) g) (ho' : OpF G X (compareOp op') g') (ha : PE X a (tE G W fa)) (hb : PE X b (tE G W fb)) (hc : PE X c (tE G W fc))
    (hm : lastMarks [op, op'] [b, c] = false) : PE X (.Compare a [op, op'] [b, c] pos) (tE G W (chF g g' fa fb fc)) := by
  obtain ⟨r, hr, k⟩ := ho
  obtain ⟨r', hr', k'⟩ := ho'
  refine PE.imp (pe_chain hr hr' ha hb hc hm) fun σ H Q ⟨τ, m, S, h⟩ => ?_
  refine ⟨τ, m, S, h.seq fun m1 S1 H1 v d e1 sr1 r1 h1 => ⟨τ, m1, S1, h1.seq fun m2 S2 H2 w d' e2 sr2 r2 h2 => ?_⟩⟩
  refine k W τ m2 S2 σ H2 _ v w d d' (r1.mono sr1 e2) r2 (h2.seq fun m3 S3 H3 z dz e3 sr3 r3 h3 => ?_)
  obtain ⟨b, hb, h4⟩ := h3.opt
  split at hb
  · cases hb
    cases r3
    refine ⟨b, rfl, ?_⟩
    cases b with
    | true =>
      rw [if_pos rfl] at h4 ⊢
      exact ⟨τ, m3, S3, h4.seq fun m4 S4 H4 u du e4 sr4 r4 h5 => k' W τ m4 S4 σ H4 Q w u d' du ((r2.mono sr2 e3).mono sr3 e4) r4 h5⟩
    | false =>
      rw [if_neg Bool.false_ne_true] at h4 ⊢
      exact h4.ret m3 H3 _ (Ext.refl _ _) sr3 (.bl _)
  · cases hb
/-- its answer as a test -/
theorem t_chain {op op' : CmpOp} {g g' : D → D → F} (ho : OpF G X (compareOp op) g) (ho' : OpF G X (compareOp op') g') (hg' : ∀ x y τ S Q E, g' x y τ S Q E → g' x y τ S (fun d S' => ∃ b, d = .bl b ∧ Q d S') E) (ha : PE X a (tE G W fa)) (hb : PE X b (tE G W fb)) (hc : PE X c (tE G W fc))
    (hm : lastMarks [op, op'] [b, c] = false) : PT X (.Compare a [op, op'] [b, c] pos) (tT G W (chT g g' fa fb fc)) := by
  obtain ⟨r, hr, k⟩ := ho
  obtain ⟨r', hr', k'⟩ := ho'
  refine PT.imp (pt_chain hr hr' ha hb hc hm) fun σ H Q ⟨τ, m, S, h⟩ => ?_
  refine ⟨τ, m, S, h.seq fun m1 S1 H1 v d e1 sr1 r1 h1 => ⟨τ, m1, S1, h1.seq fun m2 S2 H2 w d' e2 sr2 r2 h2 => ?_⟩⟩
  refine k W τ m2 S2 σ H2 _ v w d d' (r1.mono sr1 e2) r2 (h2.seq fun m3 S3 H3 z dz e3 sr3 r3 h3 => ?_)
  obtain ⟨b, hb, h4⟩ := h3.opt
  split at hb
  · cases hb
    cases r3
    refine ⟨b, rfl, ?_⟩
    cases b with
    | true =>
      rw [if_pos rfl] at h4 ⊢
      refine ⟨τ, m3, S3, At.seq (ρ' := rB) h4 fun m4 S4 H4 u du e4 sr4 r4 h5 => k' W τ m4 S4 σ H4 _ w u d' du ((r2.mono sr2 e3).mono sr3 e4) r4 ?_⟩
      obtain ⟨QD, QE, sr, er, hf, kk, px⟩ := h5
      refine ⟨_, QE, sr, er, hg' _ _ _ _ _ _ hf, fun m5 S5 H5 u5 x5 e5 sr5 r5 q5 => ?_, px⟩
      obtain ⟨b, rfl, q5⟩ := q5
      cases r5
      exact ⟨b, rfl, kk m5 S5 H5 b b e5 sr5 rfl q5⟩
    | false =>
      rw [if_neg Bool.false_ne_true] at h4 ⊢
      obtain ⟨QD, QE, sr, er, hf, kk, px⟩ := h4
      exact ⟨false, rfl, kk m3 S3 H3 false false (Ext.refl _ _) sr3 rfl hf⟩
  · cases hb
end
end Dx

set_option Elab.async false
set_option linter.all false
set_option maxRecDepth 100000
set_option maxHeartbeats 4000000
/-! DX, part 7: statements. -/
namespace Dx
open PySem PySem.Spec PyProof.Rows L2

structure DEnds where
  nx : Env → Store → Prop
  rt : D → Store → Prop
  bk : Env → Store → Prop := fun _ _ => False
  ct : Env → Store → Prop := fun _ _ => False
  ex : Ex → Env → Store → Prop := fun _ _ _ => False
abbrev FS := DEnds → Env → Store → Prop

section
variable (G : Gr)
def PNx (m : Mp) (H : Hp) (P : Env → Store → Prop) (Q : L2.St → Hp → Prop) : Prop :=
  ∀ (m' : Mp) (S' : Store) (H' : Hp) (σ' : L2.St) (τ' : Env), Ext m H m' H' → SR G m' S' H' → EnvR G m' H' σ' τ' → P τ' S' → Q σ' H'
structure PEnds (W : WX) (m : Mp) (H : Hp) (E : DEnds) (D : Ends) : Prop where
  nx : PNx G m H E.nx D.nx
  rt : PostG G (rV G) m H E.rt D.rt
  bk : PNx G m H E.bk D.bk
  ct : PNx G m H E.ct D.ct
  ex : ∀ (m' : Mp) (S' : Store) (H' : Hp) (σ' : L2.St) (τ' : Env) (cls : Value) (dd : Option Addr) (x : Ex), Ext m H m' H' → SR G m' S' H' → EnvR G m' H' σ' τ' → RepX G m' H' cls dd x → E.ex x τ' S' → W cls dd σ' H'
def AtS (W : WX) (f : FS) (D : Ends) (τ : Env) (m : Mp) (S : Store) (σ : L2.St) (H : Hp) : Prop :=
  ∃ E : DEnds, SR G m S H ∧ EnvR G m H σ τ ∧ f E τ S ∧ PEnds G W m H E D
def tS (W : WX) (f : FS) : TS := fun D σ H => ∃ τ m S, AtS G W f D τ m S σ H
end
section
variable {G : Gr} {W : WX} {m m' : Mp} {S S' : Store} {H H' : Hp} {σ σ' : L2.St} {τ τ' : Env} {E E' : DEnds} {D D' : Ends}
theorem PNx.mono {P : Env → Store → Prop} {Q : L2.St → Hp → Prop} (p : PNx G m H P Q) (e : Ext m H m' H') : PNx G m' H' P Q := fun m2 S2 H2 s t e2 sr er q => p m2 S2 H2 s t (e.trans e2) sr er q
theorem PEnds.mono (p : PEnds G W m H E D) (e : Ext m H m' H') : PEnds G W m' H' E D :=
  ⟨p.nx.mono e, p.rt.mono e, p.bk.mono e, p.ct.mono e, fun m2 S2 H2 s t c d x e2 sr er r q => p.ex m2 S2 H2 s t c d x (e.trans e2) sr er r q⟩
/-- the wish of an expression within a statement -/
theorem PEnds.px (p : PEnds G W m H E D) (er : EnvR G m H σ τ) (sr : SR G m S H) : PostX G m H (fun x S' => E.ex x τ S') σ W :=
  fun m' S' H' cls dd x e sr' r q => p.ex m' S' H' σ τ cls dd x e sr' (er.mono sr e) r q
/-- an expression ahead of a statement's end -/
theorem AtS.expr {α β : Type} {ρ : Rl α β} {f : FG β} {g : β → DEnds → Env → Store → Prop} {R : α → Hp → Prop} (h : AtS G W (fun E τ S => f τ S (fun d S' => g d E τ S') (fun x S' => E.ex x τ S')) D τ m S σ H)
    (k : ∀ (m1 : Mp) (S1 : Store) (H1 : Hp) (v : α) (d : β), Ext m H m1 H1 → SR G m1 S1 H1 → ρ m1 H1 v d → AtS G W (g d) D τ m1 S1 σ H1 → R v H1) : At G ρ W f τ m S σ H R := by
  obtain ⟨E, sr, er, hf, p⟩ := h
  refine ⟨fun d S' => g d E τ S', fun x S' => E.ex x τ S', sr, er, hf, fun m1 S1 H1 v d e sr1 r q => ?_, p.px er sr⟩
  exact k m1 S1 H1 v d e sr1 r ⟨E, sr1, er.mono sr e, q, p.mono e⟩
end

def nilS : FS := fun E τ S => E.nx τ S
def seqS (f g : FS) : FS := fun E τ S => f { E with nx := fun τ' S' => g E τ' S' } τ S
def setS (i : Nat) (f : F) : FS := fun E τ S => f τ S (fun d S' => E.nx (τ.set i (some d)) S') (fun x S' => E.ex x τ S')
def exprS (f : F) : FS := fun E τ S => f τ S (fun _ S' => E.nx τ S') (fun x S' => E.ex x τ S')
def retS (f : F) : FS := fun E τ S => f τ S (fun d S' => E.rt d S') (fun x S' => E.ex x τ S')
def retN : FS := fun E _ S => E.rt .non S
def brkS : FS := fun E τ S => E.bk τ S
def cntS : FS := fun E τ S => E.ct τ S
def ifS (t : FG Bool) (f g : FS) : FS := fun E τ S => t τ S (fun b S' => if b = true then f E τ S' else g E τ S') (fun x S' => E.ex x τ S')
def whileS (t : FG Bool) (body : FS) : FS := fun E τ S => ∃ I : Nat → Env → Store → Prop, (∃ n, I n τ S) ∧ ∀ n τ S, I n τ S →
  t τ S (fun b S' => if b = true then body { E with nx := fun τ' S'' => ∃ n', n' < n ∧ I n' τ' S'', ct := fun τ' S'' => ∃ n', n' < n ∧ I n' τ' S'', bk := E.nx } τ S' else E.nx τ S') (fun x S' => E.ex x τ S')

section
variable {G : Gr} {X : Cx} {W : WX} {st : Stmt} {rest : List Stmt} {f g : FS} {fe fo fi : F} {t : FG Bool} {e o i : Expr} {pos pos' : Pos}
theorem ss_nil : PSs X [] (tS G W nilS) := PSs.imp pss_nil fun D σ H ⟨τ, m, S, E, sr, er, hf, p⟩ => p.nx m S H σ τ (Ext.refl _ _) sr er hf
theorem ss_cons (h1 : PS X st (tS G W f)) (h2 : PSs X rest (tS G W g)) : PSs X (st :: rest) (tS G W (seqS f g)) :=
  PSs.imp (pss_cons h1 h2) fun D σ H ⟨τ, m, S, E, sr, er, hf, p⟩ => ⟨τ, m, S, _, sr, er, hf, ⟨fun m1 S1 H1 s1 t1 e1 sr1 er1 q => ⟨t1, m1, S1, E, sr1, er1, q, p.mono e1⟩, p.rt, p.bk, p.ct, p.ex⟩⟩
theorem ss_one (h1 : PS X st (tS G W f)) : PSs X [st] (tS G W f) := pss_one h1
theorem s_pass : PS X (.Pass pos) (tS G W nilS) := PS.imp ps_pass fun D σ H ⟨τ, m, S, E, sr, er, hf, p⟩ => p.nx m S H σ τ (Ext.refl _ _) sr er hf
theorem s_brk : PS X (.Break pos) (tS G W brkS) := PS.imp ps_break fun D σ H ⟨τ, m, S, E, sr, er, hf, p⟩ => p.bk m S H σ τ (Ext.refl _ _) sr er hf
theorem s_cnt : PS X (.Continue pos) (tS G W cntS) := PS.imp ps_continue fun D σ H ⟨τ, m, S, E, sr, er, hf, p⟩ => p.ct m S H σ τ (Ext.refl _ _) sr er hf
theorem s_ret (he : PE X e (tE G W fe)) : PS X (.Return (some e) pos) (tS G W (retS fe)) :=
  PS.imp (ps_ret he) fun D σ H ⟨τ, m, S, h⟩ => ⟨τ, m, S, AtS.expr (g := fun d E τ S => E.rt d S) h fun m1 S1 H1 v d e1 sr1 r1 ⟨E, sr, er, hf, p⟩ => p.rt m1 S1 H1 v d (Ext.refl _ _) sr r1 hf⟩
theorem s_retN : PS X (.Return none pos) (tS G W retN) := PS.imp ps_retN fun D σ H ⟨τ, m, S, E, sr, er, hf, p⟩ => p.rt m S H .non .non (Ext.refl _ _) sr .non hf
theorem s_expr (he : PE X e (tE G W fe)) (hs : swapsWith e none pos.line X.env = pure false) : PS X (.Expr e pos) (tS G W (exprS fe)) :=
  PS.imp (ps_expr he hs) fun D σ H ⟨τ, m, S, h⟩ => ⟨τ, m, S, AtS.expr (g := fun d E τ S => E.nx τ S) h fun m1 S1 H1 v d e1 sr1 r1 ⟨E, sr, er, hf, p⟩ => p.nx m1 S1 H1 σ τ (Ext.refl _ _) sr er hf⟩
theorem s_set {n : Nat} {x : Str} (hN : X.N.Nodup) (hi : X.N[n]? = some x) (hx : Loc X.env.scope x) (he : PE X e (tE G W fe)) (hs : swapsWith e (some (.Name x pos')) pos.line X.env = pure false) (hf : X.fn x = true ∨ X.env.scope.names.lookup x = some .local) :
    PS X (.Assign [.Name x pos'] e pos) (tS G W (setS n fe)) :=
  PS.imp (ps_set hN hi hx he hs hf) fun D σ H ⟨τ, m, S, h⟩ => ⟨τ, m, S, AtS.expr (g := fun d E τ S => E.nx (τ.set n (some d)) S) h fun m1 S1 H1 v d e1 sr1 r1 ⟨E, sr, er, hf, p⟩ => p.nx m1 S1 H1 _ _ (Ext.refl _ _) sr (er.set r1 n) hf⟩
theorem s_if {c : Expr} {a b : List Stmt} (hc : PT X c (tT G W t)) (ha : PSs X a (tS G W f)) (hb : PSs X b (tS G W g)) : PS X (.If c a b pos) (tS G W (ifS t f g)) :=
  PS.imp (ps_if hc ha hb) fun D σ H ⟨τ, m, S, h⟩ => ⟨τ, m, S, AtS.expr (ρ := rB) (g := fun b E τ S => if b = true then f E τ S else g E τ S) h fun m1 S1 H1 v d e1 sr1 r1 ⟨E, sr, er, hf, p⟩ => by
    cases (show v = d from r1)
    cases v with
    | true => rw [if_pos rfl] at hf ⊢; exact ⟨τ, m1, S1, E, sr, er, hf, p⟩
    | false => rw [if_neg Bool.false_ne_true] at hf ⊢; exact ⟨τ, m1, S1, E, sr, er, hf, p⟩⟩
theorem s_while {c : Expr} {body : List Stmt} (hp : PassesOwn (model X.prog X.w) X.A X.env X.xe) (hc : PT X c (tT G W t)) (hb : PSs X body (tS G W f)) : PS X (.While c body [] pos) (tS G W (whileS t f)) :=
  PS.imp (ps_while hp hc hb) fun D σ H ⟨τ, m, S, E, sr, er, ⟨I, ⟨n0, i0⟩, turn⟩, p⟩ => by
    refine ⟨fun n σ' H' => ∃ τ' m' S', Ext m H m' H' ∧ SR G m' S' H' ∧ EnvR G m' H' σ' τ' ∧ I n τ' S', ⟨n0, τ, m, S, Ext.refl _ _, sr, er, i0⟩, ?_⟩
    rintro n σ1 H1 ⟨τ1, m1, S1, e1, sr1, er1, i1⟩
    have p1 := p.mono e1
    refine ⟨τ1, m1, S1, _, fun x S' => E.ex x τ1 S', sr1, er1, turn n τ1 S1 i1, fun m2 S2 H2 b b' e2 sr2 r2 q2 => ?_, p1.px er1 sr1⟩
    cases (show b = b' from r2)
    cases b with
    | true =>
      rw [if_pos rfl] at q2 ⊢
      refine ⟨fun σ' H' => ∃ n' τ' m' S', n' < n ∧ Ext m H m' H' ∧ SR G m' S' H' ∧ EnvR G m' H' σ' τ' ∧ I n' τ' S', fun σ' H' ⟨n', τ', m', S', hn, a, b, c, d⟩ => ⟨n', hn, τ', m', S', a, b, c, d⟩, τ1, m2, S2, _, sr2, er1.mono sr1 e2, q2, ?_⟩
      have e12 := e1.trans e2
      have p2 := p.mono e12
      exact ⟨fun m3 S3 H3 s t e3 sr3 er3 ⟨n', hn, q⟩ => ⟨n', t, m3, S3, hn, e12.trans e3, sr3, er3, q⟩, p2.rt, p2.nx, fun m3 S3 H3 s t e3 sr3 er3 ⟨n', hn, q⟩ => ⟨n', t, m3, S3, hn, e12.trans e3, sr3, er3, q⟩, p2.ex⟩
    | false =>
      rw [if_neg Bool.false_ne_true] at q2 ⊢
      exact p1.nx m2 S2 H2 σ1 τ1 e2 sr2 (er1.mono sr1 e2) q2
end

/-! ### targets -/
inductive Tg where
  | name (i : Nat)
  | tup (ts : List Tg)
  deriving Inhabited
mutual
def bindT : Tg → D → Env → Option Env
  | .name i, d, τ => some (τ.set i (some d))
  | .tup ts, .tup ds, τ => bindTs ts ds τ
  | .tup _, _, _ => none
def bindTs : List Tg → List D → Env → Option Env
  | [], [], τ => some τ
  | t :: ts, d :: ds, τ => (bindT t d τ).bind fun τ' => bindTs ts ds τ'
  | _, _, _ => none
end
mutual
def slotsT : Tg → List Nat
  | .name i => [i]
  | .tup ts => slotsTs ts
def slotsTs : List Tg → List Nat
  | [] => []
  | t :: ts => slotsT t ++ slotsTs ts
end
/-- only these slots are another -/
def SameBut (l : List Nat) (σ σ' : L2.St) : Prop := σ'.length = σ.length ∧ ∀ i, i ∉ l → σ'[i]? = σ[i]?
theorem SameBut.trans {l l' : List Nat} {σ σ1 σ2 : L2.St} (a : SameBut l σ σ1) (b : SameBut l' σ1 σ2) : SameBut (l ++ l') σ σ2 :=
  ⟨b.1.trans a.1, fun i h => by
    simp only [List.mem_append, not_or] at h
    exact (b.2 i h.2).trans (a.2 i h.1)⟩
/-- a target's reading, by plain data -/
def GOk (G : Gr) (X : Cx) (target : Expr) (t : Tg) : Prop :=
  ∃ g : TG, PG X target g ∧ ∀ (m : Mp) (S : Store) (H : Hp) (σ : L2.St) (τ τ' : Env) (v : V) (d : D) (Q : L2.St → Hp → Prop), SR G m S H → EnvR G m H σ τ → Rep G m H v d → bindT t d τ = some τ' → (∀ σ', EnvR G m H σ' τ' → SameBut (slotsT t) σ σ' → Q σ' H) → g v σ H Q
def GsOk (G : Gr) (X : Cx) (es : List Expr) (ts : List Tg) : Prop :=
  ∃ g : TGs, PGs X es g ∧ ∀ (m : Mp) (S : Store) (H : Hp) (σ : L2.St) (τ τ' : Env) (vs : List V) (ds : List D) (Q : L2.St → Hp → Prop), SR G m S H → EnvR G m H σ τ → RepAll G m H vs ds → bindTs ts ds τ = some τ' → (∀ σ', EnvR G m H σ' τ' → SameBut (slotsTs ts) σ σ' → Q σ' H) → g vs σ H Q
section
variable {G : Gr} {X : Cx} {pos : Pos}
theorem g_name {i : Nat} {x : Str} (hN : X.N.Nodup) (hi : X.N[i]? = some x) (hx : Loc X.env.scope x) (hf : X.fn x = true ∨ X.env.scope.names.lookup x = some .local) : GOk G X (.Name x pos) (.name i) :=
  ⟨gName i, pg_name hN hi hx hf, fun m S H σ τ τ' v d Q sr er r h k => by
    simp only [bindT] at h
    cases h
    exact k _ (er.set r i) ⟨by simp, fun j hj => List.getElem?_set_ne (fun e => hj (by simp [slotsT, e]))⟩⟩
theorem gs_nil : GsOk G X [] [] :=
  ⟨gNil, pgs_nil, fun m S H σ τ τ' vs ds Q sr er r h k => by
    cases r with
    | nil => simp only [bindTs] at h; cases h; exact ⟨rfl, k σ er ⟨rfl, fun _ _ => rfl⟩⟩
    | cons a r => simp only [bindTs] at h; cases h⟩
theorem gs_cons {e : Expr} {es : List Expr} {t : Tg} {ts : List Tg} (h1 : GOk G X e t) (h2 : GsOk G X es ts) (hs : (assignEach (e :: es) X.env).map (·.2) = assign e X.env :: (assignEach es X.env).map (·.2)) : GsOk G X (e :: es) (t :: ts) := by
  obtain ⟨g1, p1, k1⟩ := h1
  obtain ⟨g2, p2, k2⟩ := h2
  refine ⟨gCons g1 g2, pgs_cons p1 p2 hs, fun m S H σ τ τ' vs ds Q sr er r h k => ?_⟩
  cases r with
  | nil => simp only [bindTs] at h; cases h
  | cons a r =>
    simp only [bindTs] at h
    obtain ⟨τ1, h3, h4⟩ := Option.bind_eq_some_iff.mp h
    exact ⟨_, _, rfl, k1 m S H σ τ τ1 _ _ _ sr er a h3 fun σ1 er1 s1 => k2 m S H σ1 τ1 τ' _ _ Q sr er1 r h4 fun σ2 er2 s2 => k σ2 er2 (s1.trans s2)⟩
theorem bindTs_len : ∀ (ts : List Tg) (ds : List D) (τ τ' : Env), bindTs ts ds τ = some τ' → ts.length = ds.length := by
  intro ts
  induction ts with
  | nil => intro ds τ τ' h; cases ds <;> simp [bindTs] at h ⊢
  | cons t ts ih =>
    intro ds τ τ' h
    cases ds with
    | nil => simp [bindTs] at h
    | cons d ds =>
      simp only [bindTs] at h
      obtain ⟨τ1, h3, h4⟩ := Option.bind_eq_some_iff.mp h
      simp [ih ds τ1 τ' h4]
theorem g_tup {es : List Expr} {kk : Nat} {ts : List Tg} {n : Nat} (hK : X.K = G.K) (hc : X.calm = true) (h : GsOk G X es ts) (hl : ts.length = n) (hn : (assignEach es X.env).length = n) (hst : (assignEach es X.env).findIdx? (·.1) = none) : GOk G X (.Tuple es kk pos) (.tup ts) := by
  obtain ⟨g, p, k⟩ := h
  refine ⟨gTup X.K n g, pg_tup hc p hn hst, fun m S H σ τ τ' v d Q sr er r h kk => ?_⟩
  cases d with
  | tup ds =>
    simp only [bindT] at h
    obtain ⟨a, xs, rfl, t1, ra⟩ := r.getT rfl
    refine ⟨a, xs, rfl, hK ▸ t1, ?_, k m S H σ τ τ' xs ds Q sr er ra h fun σ' e s => kk σ' e (by simpa [slotsT] using s)⟩
    rw [ra.length, ← bindTs_len ts ds τ τ' h, hl]
  | _ => simp [bindT] at h
end
def asgS (t : Tg) (f : F) : FS := fun E τ S => f τ S (fun d S' => match bindT t d τ with | some τ' => E.nx τ' S' | none => False) (fun x S' => E.ex x τ S')
def parS (i j : Nat) (f : FG (List D)) : FS := fun E τ S => f τ S (fun ds S' => match ds with | [a, b] => E.nx ((τ.set i (some a)).set j (some b)) S' | _ => False) (fun x S' => E.ex x τ S')
def par3S (i j l : Nat) (f : FG (List D)) : FS := fun E τ S => f τ S (fun ds S' => match ds with | [a, b, c] => E.nx (((τ.set i (some a)).set j (some b)).set l (some c)) S' | _ => False) (fun x S' => E.ex x τ S')
/-- o[i] = e, a list of the store -/
def subS (fe fo fi : F) : FS := fun E τ S => bindF fe (fun d => bindF fo fun o => bindF fi fun i => fun τ S Q _ => match o, i with
  | .obj n, .int k => (match S[n]? with
    | some (.lst ds) => (match ixN ds.length k with
      | some j => Q () (S.set n (.lst (ds.set j d)))
      | none => False)
    | _ => False)
  | _, _ => False) τ S (fun _ S' => E.nx τ S') (fun x S' => E.ex x τ S')
theorem live_of {G : Gr} {m : Mp} {S : Store} {H : Hp} {n : Nat} {v : V} {ds : List D} (sr : SR G m S H) (r : Rep G m H v (.obj n)) (h : S[n]? = some (.lst ds)) : ∃ a xs, v = .ref a ∧ m.sl[n]? = some (some a) ∧ H a = some (.lst xs) ∧ RepAll G m H xs ds := by
  cases r with
  | @obj _ a h1 h2 =>
    cases q : m.sl[n]? with
    | none => rw [List.getElem?_eq_none_iff] at q; omega
    | some o =>
      cases o with
      | none =>
        have z := sr.dead n q
        rw [h] at z; cases z
      | some b =>
        have e := h2 b q
        subst e
        obtain ⟨xs, hx, rx⟩ := sr.at_ n b _ q h
        exact ⟨b, xs, rfl, rfl, hx, rx⟩
section
variable {G : Gr} {X : Cx} {W : WX} {fe fo fi : F} {fa : FG (List D)} {e o i tg : Expr} {pos pos' : Pos} {t : Tg}
theorem s_asg (he : PE X e (tE G W fe)) (hg : GOk G X tg t) (hs : swapsWithSole [tg] e pos.line X.env = pure false) (hw : swappedStores [tg] e X.env = pure none) (h1 : (assignEach [tg] X.env).map (·.2) = [assign tg X.env]) : PS X (.Assign [tg] e pos) (tS G W (asgS t fe)) := by
  obtain ⟨g, p, k⟩ := hg
  refine PS.imp (ps_asg he p hs hw h1) fun D σ H ⟨τ, m, S, h⟩ => ⟨τ, m, S, AtS.expr (g := fun d E τ S => match bindT t d τ with | some τ' => E.nx τ' S | none => False) h fun m1 S1 H1 v d e1 sr1 r1 ⟨E, sr, er, hf, p⟩ => ?_⟩
  dsimp only at hf
  cases q : bindT t d τ with
  | none => rw [q] at hf; exact hf.elim
  | some τ' => rw [q] at hf; exact k m1 S1 H1 σ τ τ' v d D.nx sr er r1 q fun σ' er' _ => p.nx m1 S1 H1 σ' τ' (Ext.refl _ _) sr er' hf
theorem s_par {i j : Nat} {x y : Str} {a b : Expr} {px py pt : Pos} {kt k2 pt2} (hc : X.calm = true) (hN : X.N.Nodup) (hi : X.N[i]? = some x) (hj : X.N[j]? = some y) (hij : i ≠ j)
    (hx : X.env.scope.names.lookup x = some .local) (hy : X.env.scope.names.lookup y = some .local) (ha : PA X [a, b] (tA G W fa))
    (hw : swappedStores [.Tuple [.Name x px, .Name y py] kt pt] (.Tuple [a, b] k2 pt2) X.env = pure (some [x, y]))
    (hs : swapsWithSole [.Tuple [.Name x px, .Name y py] kt pt] (.Tuple [a, b] k2 pt2) pos.line X.env = pure false) :
    PS X (.Assign [.Tuple [.Name x px, .Name y py] kt pt] (.Tuple [a, b] k2 pt2) pos) (tS G W (parS i j fa)) :=
  PS.imp (ps_par hc hN hi hj hij hx hy ha hw hs) fun D σ H ⟨τ, m, S, h⟩ => ⟨τ, m, S, AtS.expr (ρ := rA G) (g := fun ds E τ S => match ds with | [a, b] => E.nx ((τ.set i (some a)).set j (some b)) S | _ => False) h fun m1 S1 H1 vs ds e1 sr1 r1 ⟨E, sr, er, hf, p⟩ => by
    dsimp only at hf
    split at hf
    · cases r1 with
      | cons r1 rr =>
        cases rr with
        | cons r2 rr =>
          cases rr
          exact ⟨_, _, rfl, p.nx m1 S1 H1 _ _ (Ext.refl _ _) sr ((er.set r1 i).set r2 j) hf⟩
    · exact hf.elim⟩
theorem s_par3 {i j l : Nat} {x y z : Str} {a b c : Expr} {px py pz pt : Pos} {kt k2 pt2} (hc : X.calm = true) (hN : X.N.Nodup) (hi : X.N[i]? = some x) (hj : X.N[j]? = some y) (hl : X.N[l]? = some z) (hij : i ≠ j) (hil : i ≠ l) (hjl : j ≠ l)
    (hx : X.env.scope.names.lookup x = some .local) (hy : X.env.scope.names.lookup y = some .local) (hz : X.env.scope.names.lookup z = some .local) (ha : PA X [a, b, c] (tA G W fa))
    (hw : swappedStores [.Tuple [.Name x px, .Name y py, .Name z pz] kt pt] (.Tuple [a, b, c] k2 pt2) X.env = pure (some [x, y, z]))
    (hs : swapsWithSole [.Tuple [.Name x px, .Name y py, .Name z pz] kt pt] (.Tuple [a, b, c] k2 pt2) pos.line X.env = pure false) :
    PS X (.Assign [.Tuple [.Name x px, .Name y py, .Name z pz] kt pt] (.Tuple [a, b, c] k2 pt2) pos) (tS G W (par3S i j l fa)) :=
  PS.imp (ps_par3 hc hN hi hj hl hij hil hjl hx hy hz ha hw hs) fun D σ H ⟨τ, m, S, h⟩ => ⟨τ, m, S, AtS.expr (ρ := rA G) (g := fun ds E τ S => match ds with | [a, b, c] => E.nx (((τ.set i (some a)).set j (some b)).set l (some c)) S | _ => False) h fun m1 S1 H1 vs ds e1 sr1 r1 ⟨E, sr, er, hf, p⟩ => by
    dsimp only at hf
    split at hf
    · cases r1 with
      | cons r1 rr =>
        cases rr with
        | cons r2 rr =>
          cases rr with
          | cons r3 rr =>
            cases rr
            exact ⟨_, _, _, rfl, p.nx m1 S1 H1 _ _ (Ext.refl _ _) sr (((er.set r1 i).set r2 j).set r3 l) hf⟩
    · exact hf.elim⟩
theorem s_sub {sp : Pos} (he : PE X e (tE G W fe)) (ho : PE X o (tE G W fo)) (hi : PE X i (tE G W fi))
    (ha : ∀ v, assign (.Subscript o i sp) X.env v = (do
      let ov ← holding [v] (eval o X.env)
      let iv ← holding [v, ov] (eval i X.env)
      standAt sp
      holding [v, ov, iv] (setItem ov iv v)
      release [v, ov, iv] []))
    (hs : swapsWithSole [.Subscript o i sp] e pos.line X.env = pure false) (hw : swappedStores [.Subscript o i sp] e X.env = pure none) (h1 : (assignEach [.Subscript o i sp] X.env).map (·.2) = [assign (.Subscript o i sp) X.env]) :
    PS X (.Assign [.Subscript o i sp] e pos) (tS G W (subS fe fo fi)) := by
  refine PS.imp (ps_asg he (pg_sub ho hi set_list ha) hs hw h1) fun D σ H ⟨τ, m, S, E, sr, er, hf, p⟩ => ?_
  have hA : At G (fun _ _ (_ : Unit) (_ : Unit) => True) W (bindF fe (fun d => bindF fo fun o => bindF fi fun i => fun τ S Q _ => match o, i with
    | .obj n, .int k => (match S[n]? with
      | some (.lst ds) => (match ixN ds.length k with
        | some j => Q () (S.set n (.lst (ds.set j d)))
        | none => False)
      | _ => False)
    | _, _ => False)) τ m S σ H (fun _ H' => D.nx σ H') :=
    ⟨fun _ S' => E.nx τ S', fun x S' => E.ex x τ S', sr, er, hf, fun m1 S1 H1 _ _ e1 sr1 _ q => p.nx m1 S1 H1 σ τ e1 sr1 (er.mono sr e1) q, p.px er sr⟩
  refine ⟨τ, m, S, hA.seq fun m1 S1 H1 v d e1 sr1 r1 h1 => ⟨τ, m1, S1, h1.seq fun m2 S2 H2 ov od e2 sr2 r2 h2 => ⟨τ, m2, S2, h2.seq fun m3 S3 H3 iv id e3 sr3 r3 h3 => ?_⟩⟩⟩
  obtain ⟨QD, QE, sr, er, hf, k, px⟩ := h3
  split at hf
  · split at hf
    · rename_i ds hs
      split at hf
      · rename_i j hj
        cases r3
        obtain ⟨a, xs, rfl, hm, hH, rx⟩ := live_of sr (r2.mono sr2 e3) hs
        exact ⟨a, xs, _, j, rfl, rfl, hH, by rw [rx.length]; exact hj, k m3 _ _ () () (Ext.write sr hm) (sr.write hm (rx.set ((r1.mono sr1 e2).mono sr2 e3) j)) trivial hf⟩
      · exact hf.elim
    · exact hf.elim
  · exact hf.elim
end
end Dx

set_option Elab.async false
set_option linter.all false
set_option maxRecDepth 100000
set_option maxHeartbeats 4000000
/-! DX, part 8: what is walked, for, comprehensions. -/
namespace Dx
open PySem PySem.Spec PyProof.Rows L2

/-- what a loop walks: its items, and what must stand at each turn -/
abbrev Its' := List D × (Store → Prop)
structure JOk (G : Gr) (J : It) (ds : List D) (chk : Store → Prop) (Src : Mp → Store → Hp → Prop) : Prop where
  mono : ∀ (m : Mp) (S : Store) (H : Hp) (m' : Mp) (S' : Store) (H' : Hp), SR G m S H → SR G m' S' H' → Ext0 m H m' H' → Src m S H → Src m' S' H'
  go : ∀ (i : Nat) (d : D) (m : Mp) (S : Store) (H : Hp), SR G m S H → Src m S H → chk S → ds[i]? = some d → J.go i H ∧ ∀ v H', J.yld i H v H' → Ext m H m H' ∧ SR G m S H' ∧ Rep G m H' v d
  stop : ∀ (i : Nat) (m : Mp) (S : Store) (H : Hp), SR G m S H → Src m S H → chk S → ds.length ≤ i → J.stop i H
section
variable (G : Gr)
abbrev rI : Rl It Its' := fun m H J p => ∃ Src, JOk G J p.1 p.2 Src ∧ ∀ S, SR G m S H → Src m S H
def tI (W : WX) (f : FG Its') : TI := fun σ H R => ∃ τ m S, At G (rI G) W f τ m S σ H R
end
theorem PI.imp {X : Cx} {tg e : Expr} {t t' : TI} (h : PI X tg e t) (k : ∀ σ H R, t' σ H R → t σ H R) : PI X tg e t' := ⟨fun pins s σ H R I q => h.run pins s σ H R I (k σ H R q)⟩

/-! ### lists, tuples, texts -/
section
variable {X : Cx} {tg : Expr}
def iAny (K : PySem.W.Frag) (tl : TE) : TI := fun σ H R => tl σ H fun x H1 => (∃ a, x = .ref a ∧ (∃ xs, SqL K H1 a xs) ∧ R (Itl K a) H1) ∨ (∃ a, x = .ref a ∧ (∃ xs, SqT K H1 a xs) ∧ R (Itt K a) H1) ∨ ∃ z, x = .str z ∧ R (Its z) H1
theorem pi_any {l : Expr} {tl : TE} (hl : PE X l tl) : PI X tg l (iAny X.K tl) := by
  refine ⟨fun pins s σ H R I h => ?_⟩
  refine thn (hl.run pins s σ H _ I h) fun v s1 ⟨x, H1, I1, r1, q1⟩ => ?_
  rcases q1 with ⟨a, e, ⟨xs, hq⟩, q⟩ | ⟨a, e, ⟨xs, hq⟩, q⟩ | ⟨x, ex, q⟩
  · subst e
    cases r1
    obtain ⟨its, rv, p, hz⟩ := I1.list hq
    refine wpAny_pyIter_list p.isList ?_
    refine ⟨s1.heap.objs.size, [s1.heap.objs.size], _, _, H1, rfl, I1.kept (t' := s1.toks) fun b o e => Heap.get?_push_of_some _ e, turn_list a _, ⟨_, Heap.get?_push_size _ rfl, rfl, rfl⟩, fun b hb => ?_, q⟩
    have e : b = s1.heap.objs.size := by simpa using hb
    subst e
    exact I1.fpOk (Nat.le_refl _) (I1.hok.fresh (Nat.le_refl _))
  · subst e
    cases r1
    obtain ⟨its, rv, p, hz⟩ := I1.tuple hq
    refine wpAny_pyIter_tuple (show s1.heap.IsTuple a its.toArray from p) ?_
    refine ⟨s1.heap.objs.size, [s1.heap.objs.size], _, _, H1, rfl, I1.kept (t' := s1.toks) fun b o e => Heap.get?_push_of_some _ e, turn_tuple a _, ⟨_, Heap.get?_push_size _ rfl, rfl, rfl⟩, fun b hb => ?_, q⟩
    have e : b = s1.heap.objs.size := by simpa using hb
    subst e
    exact I1.fpOk (Nat.le_refl _) (I1.hok.fresh (Nat.le_refl _))
  · subst ex
    obtain ⟨t, rfl⟩ := r1
    cases ha : x.cps.all (· < 128)
    · exact wpAny_pyIter_wide ha (pi_one (tk := s1.toks) I1 _ (turn_str _ x t "str_iterator" (.inr rfl)) ⟨_, Heap.get?_push_size _ rfl, rfl, rfl⟩ q)
    · exact wpAny_pyIter_ascii ha (pi_one (tk := s1.toks) I1 _ (turn_str _ x t "str_ascii_iterator" (.inl rfl)) ⟨_, Heap.get?_push_size _ rfl, rfl, rfl⟩ q)
end
def strItems (z : Str) : List D := z.cps.toList.map fun c => .str ⟨#[c]⟩
/-- the items of a value -/
def itsF (d : D) : FG Its' := fun _ S Q _ => match getS S d with
  | .tup ds => Q (ds, fun _ => True) S
  | .lst ds => Q (ds, fun S' => getS S' d = .lst ds) S
  | .str z => Q (strItems z, fun _ => True) S
  | _ => False
theorem jok_tup {G : Gr} {a : Addr} {ds : List D} : JOk G (Itt G.K a) ds (fun _ => True) (fun m _ H => ∃ xs, SqT G.K H a xs ∧ RepAll G m H xs ds) where
  mono := fun m S H m' S' H' sr sr' e ⟨xs, h, r⟩ => ⟨xs, by
    rcases h with h | h
    · exact .inl (e.rd h (sr.notTup h) (fun ps z => by cases z)).1
    · exact .inr h, r.mono0 sr e⟩
  go := fun i d m S H sr ⟨xs, h, r⟩ _ hd => by
    obtain ⟨v, hv, rv⟩ := r.get hd
    refine ⟨⟨xs, v, h, hv⟩, fun w H' ⟨e, k⟩ => ?_⟩
    subst e
    have z := k xs h
    rw [hv] at z; cases z
    exact ⟨Ext.refl _ _, sr, rv⟩
  stop := fun i m S H sr ⟨xs, h, r⟩ _ hi => ⟨xs, h, by rw [r.length]; exact hi⟩
theorem jok_lst {G : Gr} {a : Addr} {d : D} {ds : List D} : JOk G (Itl G.K a) ds (fun S' => getS S' d = .lst ds) (fun m S H => Rep G m H (.ref a) d) where
  mono := fun m S H m' S' H' sr sr' e r => r.mono0 sr e
  go := fun i x m S H sr r c hd => by
    obtain ⟨b, xs, e, h, ra⟩ := r.getL sr c
    cases e
    obtain ⟨v, hv, rv⟩ := ra.get hd
    refine ⟨⟨xs, v, h.sq, hv⟩, fun w H' ⟨e, k⟩ => ?_⟩
    subst e
    have z := k xs h.sq
    rw [hv] at z; cases z
    exact ⟨Ext.refl _ _, sr, rv⟩
  stop := fun i m S H sr r c hi => by
    obtain ⟨b, xs, e, h, ra⟩ := r.getL sr c
    cases e
    exact ⟨xs, h.sq, by rw [ra.length]; exact hi⟩
theorem jok_str {G : Gr} {z : Str} : JOk G (Its z) (strItems z) (fun _ => True) (fun _ _ _ => True) where
  mono := fun _ _ _ _ _ _ _ _ _ _ => trivial
  go := fun i x m S H sr _ _ hd => by
    unfold strItems at hd
    rw [List.getElem?_map] at hd
    obtain ⟨c, h1, rfl⟩ := Option.map_eq_some_iff.mp hd
    have h1 : z.cps[i]? = some c := by simpa using h1
    refine ⟨(Array.getElem?_eq_some_iff.mp h1).1, fun w H' ⟨e, c', k1, k2⟩ => ?_⟩
    subst e
    rw [h1] at k1; cases k1
    subst k2
    exact ⟨Ext.refl _ _, sr, .str _⟩
  stop := fun i m S H sr _ _ hi => by
    have : (strItems z).length = z.cps.size := by simp [strItems]
    show z.cps.size ≤ i
    omega
theorem i_val {G : Gr} {X : Cx} {W : WX} {tg e : Expr} {f : F} (hK : X.K = G.K) (he : PE X e (tE G W f)) : PI X tg e (tI G W (bindF f itsF)) :=
  PI.imp (pi_any he) fun σ H R ⟨τ, m, S, h⟩ => ⟨τ, m, S, h.seq fun m1 S1 H1 v d e1 sr1 r1 h1 => by
    obtain ⟨QD, QE, sr, er, hf, k, px⟩ := h1
    rw [hK]
    unfold itsF at hf
    split at hf
    · rename_i ds q
      cases getS_tup q
      obtain ⟨a, xs, rfl, t1, ra⟩ := r1.getT rfl
      exact .inr (.inl ⟨a, rfl, ⟨xs, t1⟩, k m1 S1 H1 _ _ (Ext.refl _ _) sr ⟨_, jok_tup, fun S _ => ⟨xs, t1, ra⟩⟩ hf⟩)
    · rename_i ds q
      obtain ⟨a, xs, rfl, t1, ra⟩ := r1.getL sr q
      exact .inl ⟨a, rfl, ⟨xs, t1.sq⟩, k m1 S1 H1 _ _ (Ext.refl _ _) sr ⟨_, jok_lst, fun S _ => r1⟩ hf⟩
    · rename_i z q
      cases getS_str q
      cases r1
      exact .inr (.inr ⟨z, rfl, k m1 S1 H1 _ _ (Ext.refl _ _) sr ⟨_, jok_str, fun S _ => trivial⟩ hf⟩)
    · exact hf.elim⟩
/-! ### range -/
def rngItems (lo c : Int) (n : Nat) : List D := (List.range n).map fun i => .int (lo + (i : Nat) * c)
theorem rngItems_get {lo c : Int} {n i : Nat} {d : D} (h : (rngItems lo c n)[i]? = some d) : i < n ∧ d = .int (lo + (i : Nat) * c) := by
  unfold rngItems at h
  rw [List.getElem?_map] at h
  obtain ⟨j, h1, rfl⟩ := Option.map_eq_some_iff.mp h
  have := List.getElem?_eq_some_iff.mp h1
  obtain ⟨h2, h3⟩ := this
  rw [List.length_range] at h2
  rw [List.getElem_range] at h3
  subst h3
  exact ⟨h2, rfl⟩
theorem jok_rng {G : Gr} {lo : Int} {n : Nat} : JOk G (Itr lo n) (rngItems lo 1 n) (fun _ => True) (fun _ _ _ => True) where
  mono := fun _ _ _ _ _ _ _ _ _ _ => trivial
  go := fun i x m S H sr _ _ hd => by
    obtain ⟨h1, rfl⟩ := rngItems_get hd
    refine ⟨h1, fun w H' ⟨e, k⟩ => ?_⟩
    subst e k
    exact ⟨Ext.refl _ _, sr, by rw [Int.mul_one]; exact .int _⟩
  stop := fun i m S H sr _ _ hi => by
    have : (rngItems lo 1 n).length = n := by simp [rngItems]
    show n ≤ i
    omega
theorem jok_rngC {G : Gr} {lo c : Int} {n : Nat} : JOk G (Itc lo c n) (rngItems lo c n) (fun _ => True) (fun _ _ _ => True) where
  mono := fun _ _ _ _ _ _ _ _ _ _ => trivial
  go := fun i x m S H sr _ _ hd => by
    obtain ⟨h1, rfl⟩ := rngItems_get hd
    refine ⟨h1, fun w H' ⟨e, k⟩ => ?_⟩
    subst e k
    exact ⟨Ext.refl _ _, sr, .int _⟩
  stop := fun i m S H sr _ _ hi => by
    have : (rngItems lo c n).length = n := by simp [rngItems]
    show n ≤ i
    omega
def smallB (i : Int) : Bool := decide (-(2 ^ 62) ≤ i) && decide (i < 2 ^ 62)
def rng1 (ds : List D) : FG Its' := fun _ S Q _ => match ds with
  | [.int j] => smallB j = true ∧ Q (rngItems 0 1 j.toNat, fun _ => True) S
  | _ => False
def rng2 (ds : List D) : FG Its' := fun _ S Q _ => match ds with
  | [.int i, .int j] => (smallB i = true ∧ smallB j = true) ∧ Q (rngItems i 1 (j - i).toNat, fun _ => True) S
  | _ => False
/-- range(i, j, -1) -/
def rng3 (ds : List D) : FG Its' := fun _ S Q _ => match ds with
  | [.int i, .int j, .int c] => (smallB i = true ∧ smallB j = true ∧ c = -1) ∧ Q (rngItems i (-1) (i - j).toNat, fun _ => True) S
  | _ => False
section
variable {G : Gr} {X : Cx} {W : WX} {tg a b c : Expr} {fa : FG (List D)} {p pos : Pos}
theorem i_rng1 (hg : Gl X "range") (hm : X.mg "range" = none) (ha : PA X [a] (tA G W fa)) (hs : starEach [a] X.env = [(false, eval a X.env)]) : PI X tg (.Call (.Name "range" p) [a] [] pos) (tI G W (bindF fa rng1)) :=
  PI.imp (pi_range1 hg hm ha hs) fun σ H R ⟨τ, m, S, h⟩ => ⟨τ, m, S, h.seq fun m1 S1 H1 vs ds e1 sr1 r1 h1 => by
    obtain ⟨QD, QE, sr, er, hf, k, px⟩ := h1
    unfold rng1 at hf
    split at hf
    · obtain ⟨hb, hf⟩ := hf
      simp only [smallB, Bool.and_eq_true, decide_eq_true_eq] at hb
      cases r1 with
      | cons r rr => cases rr; cases r; exact ⟨_, rfl, hb.1, hb.2, k m1 S1 H1 _ _ (Ext.refl _ _) sr ⟨_, jok_rng, fun S _ => trivial⟩ hf⟩
    · exact hf.elim⟩
theorem i_rng2 (hg : Gl X "range") (hm : X.mg "range" = none) (ha : PA X [a, b] (tA G W fa)) (hs : starEach [a, b] X.env = [(false, eval a X.env), (false, eval b X.env)]) (hs2 : starEach [b] X.env = [(false, eval b X.env)]) : PI X tg (.Call (.Name "range" p) [a, b] [] pos) (tI G W (bindF fa rng2)) :=
  PI.imp (pi_range2 hg hm ha hs hs2) fun σ H R ⟨τ, m, S, h⟩ => ⟨τ, m, S, h.seq fun m1 S1 H1 vs ds e1 sr1 r1 h1 => by
    obtain ⟨QD, QE, sr, er, hf, k, px⟩ := h1
    unfold rng2 at hf
    split at hf
    · obtain ⟨⟨hb, hb2⟩, hf⟩ := hf
      simp only [smallB, Bool.and_eq_true, decide_eq_true_eq] at hb hb2
      cases r1 with
      | cons r rr =>
        cases rr with
        | cons r' rr => cases rr; cases r; cases r'; exact ⟨_, _, rfl, ⟨hb.1, hb.2, hb2.1, hb2.2⟩, k m1 S1 H1 _ _ (Ext.refl _ _) sr ⟨_, jok_rng, fun S _ => trivial⟩ hf⟩
    · exact hf.elim⟩
theorem i_rng3 (hg : Gl X "range") (hm : X.mg "range" = none) (ha : PA X [a, b, c] (tA G W fa)) (hs : starEach [a, b, c] X.env = (false, eval a X.env) :: starEach [b, c] X.env) (hpl : (backTo pos (starEach [b, c] X.env)).any (·.1) = false) : PI X tg (.Call (.Name "range" p) [a, b, c] [] pos) (tI G W (bindF fa rng3)) :=
  PI.imp (pi_range3 hg hm ha hs hpl) fun σ H R ⟨τ, m, S, h⟩ => ⟨τ, m, S, h.seq fun m1 S1 H1 vs ds e1 sr1 r1 h1 => by
    obtain ⟨QD, QE, sr, er, hf, k, px⟩ := h1
    unfold rng3 at hf
    split at hf
    · obtain ⟨⟨hb, hb2, rfl⟩, hf⟩ := hf
      simp only [smallB, Bool.and_eq_true, decide_eq_true_eq] at hb hb2
      cases r1 with
      | cons r rr =>
        cases rr with
        | cons r' rr =>
          cases rr with
          | cons r'' rr => cases rr; cases r; cases r'; cases r''; exact ⟨_, _, _, _, rfl, RgC.neg hb.1 hb.2 hb2.1 hb2.2, k m1 S1 H1 _ _ (Ext.refl _ _) sr ⟨_, jok_rngC, fun S _ => trivial⟩ hf⟩
    · exact hf.elim⟩
end

/-! ### for -/
def forL (t : Tg) (body : FS) (chk : Store → Prop) : List D → FS
  | [] => fun E τ S => chk S ∧ E.nx τ S
  | d :: ds => fun E τ S => chk S ∧ match bindT t d τ with
    | some τ' => body { E with nx := fun τ'' S'' => forL t body chk ds E τ'' S'', ct := fun τ'' S'' => forL t body chk ds E τ'' S'', bk := E.nx } τ' S
    | none => False
def forS (fi : FG Its') (t : Tg) (body : FS) : FS := fun E τ S => fi τ S (fun p S' => forL t body p.2 p.1 E τ S') (fun x S' => E.ex x τ S')
section
variable {G : Gr} {X : Cx} {W : WX} {tg iter : Expr} {body : List Stmt} {fi : FG Its'} {t : Tg} {f : FS} {pos : Pos}
theorem s_for (hp : PassesOwn (model X.prog X.w) X.A X.env X.xe) (hc : X.calm = true) (hi : PI X tg iter (tI G W fi)) (hg : GOk G X tg t) (hb : PSs X body (tS G W f)) (hs : ∀ x, foldedSetIterable iter X.env x = pure x) : PS X (.For tg iter body [] pos) (tS G W (forS fi t f)) := by
  obtain ⟨g, pg, kg⟩ := hg
  refine PS.imp (ps_for hp hc hi pg hb hs) fun D σ H ⟨τ, m, S, h⟩ => ⟨τ, m, S, AtS.expr (ρ := rI G) (g := fun p E τ S => forL t f p.2 p.1 E τ S) h fun m1 S1 H1 J pq e1 sr1 r1 ⟨E, sr, er, hf, p⟩ => ?_⟩
  obtain ⟨ds, chk⟩ := pq
  obtain ⟨Src, J1, s1⟩ := r1
  refine ⟨fun i μ σ' H' => μ = ds.length - i ∧ ∃ τ' m' S', i ≤ ds.length ∧ Ext m1 H1 m' H' ∧ SR G m' S' H' ∧ EnvR G m' H' σ' τ' ∧ Src m' S' H' ∧ forL t f chk (ds.drop i) E τ' S', ⟨_, rfl, τ, m1, S1, Nat.zero_le _, Ext.refl _ _, sr, er, s1 S1 sr, by simpa using hf⟩, ?_⟩
  rintro i μ σ2 H2 ⟨rfl, τ2, m2, S2, hi2, e2, sr2, er2, src2, h2⟩
  by_cases hl : i < ds.length
  · obtain ⟨d, hd⟩ : ∃ d, ds[i]? = some d := ⟨ds[i], List.getElem?_eq_getElem hl⟩
    have ed : ds.drop i = d :: ds.drop (i + 1) := by
      rw [List.drop_eq_getElem_cons hl]
      congr 1
      rw [List.getElem?_eq_getElem hl] at hd
      exact Option.some.inj hd
    rw [ed] at h2
    obtain ⟨hc2, h2⟩ := h2
    obtain ⟨jg, jy⟩ := J1.go i d m2 S2 H2 sr2 src2 hc2 hd
    refine .inr ⟨jg, fun σ' H' => ∃ τ' m' S', Ext m1 H1 m' H' ∧ SR G m' S' H' ∧ EnvR G m' H' σ' τ' ∧ Src m' S' H' ∧ forL t f chk (ds.drop (i + 1)) E τ' S', fun σ' H' ⟨τ', m', S', a, b, c, d, e⟩ => ⟨ds.length - (i + 1), by omega, rfl, τ', m', S', by omega, a, b, c, d, e⟩, fun v H3 y3 => ?_⟩
    obtain ⟨e3, sr3, r3⟩ := jy v H3 y3
    cases q : bindT t d τ2 with
    | none => rw [q] at h2; exact h2.elim
    | some τ3 =>
      rw [q] at h2
      refine kg m2 S2 H3 σ2 τ2 τ3 v d _ sr3 (er2.mono sr2 e3) r3 q fun σ3 er3 _ => ⟨τ3, m2, S2, _, sr3, er3, h2, ?_⟩
      have e23 := e2.trans e3
      have p3 := p.mono e23
      have src3 := J1.mono m2 S2 H2 m2 S2 H3 sr2 sr3 e3.to0 src2
      exact ⟨fun m4 S4 H4 s t e4 sr4 er4 q4 => ⟨t, m4, S4, e23.trans e4, sr4, er4, J1.mono m2 S2 H3 m4 S4 H4 sr3 sr4 e4.to0 src3, q4⟩, p3.rt, p3.nx, fun m4 S4 H4 s t e4 sr4 er4 q4 => ⟨t, m4, S4, e23.trans e4, sr4, er4, J1.mono m2 S2 H3 m4 S4 H4 sr3 sr4 e4.to0 src3, q4⟩, p3.ex⟩
  · have e : i = ds.length := by omega
    rw [e, List.drop_length] at h2
    obtain ⟨hc2, h2⟩ := h2
    exact .inl ⟨J1.stop i m2 S2 H2 sr2 src2 hc2 (by show ds.length ≤ i; omega), (p.mono e2).nx m2 S2 H2 σ2 τ2 (Ext.refl _ _) sr2 er2 h2⟩
end

/-! ### comprehensions -/
def noX : QX := fun _ _ => False
def W0 : WX := fun _ _ _ _ => False
def wipeE (τ : Env) : List Nat → Env
  | [] => τ
  | v :: vs => (wipeE τ vs).set v none
theorem EnvR.wipe {G : Gr} {m : Mp} {H : Hp} {σ : L2.St} {τ : Env} (r : EnvR G m H σ τ) : ∀ vs, EnvR G m H (L2.wipe σ vs) (wipeE τ vs)
  | [] => r
  | v :: vs => (EnvR.wipe r vs).unset v
theorem wipe_congr {σ σ' : L2.St} : ∀ {vs l : List Nat}, SameBut l (L2.wipe σ vs) σ' → (∀ i ∈ l, i ∈ vs) → L2.wipe σ' vs = L2.wipe σ vs := by
  intro vs l h hl
  have key : ∀ (ws : List Nat) (σ : L2.St) (i : Nat), (L2.wipe σ ws)[i]? = if i < σ.length then (if i ∈ ws then some none else σ[i]?) else none := by
    intro ws
    induction ws with
    | nil => intro σ i; by_cases hi : i < σ.length <;> simp [L2.wipe, hi]
    | cons w ws ih =>
      intro σ i
      unfold L2.wipe
      by_cases e : w = i
      · subst e
        by_cases hi : w < σ.length
        · rw [List.getElem?_set_self (by rw [L2.wipe_length]; exact hi)]
          simp [hi]
        · rw [List.getElem?_eq_none (by simp [L2.wipe_length]; omega)]
          simp [hi]
      · rw [List.getElem?_set_ne e, ih]
        have : i ≠ w := fun z => e z.symm
        simp [this]
  apply List.ext_getElem?
  intro i
  rw [key, key]
  have e1 : σ'.length = σ.length := by rw [h.1, L2.wipe_length]
  rw [e1]
  by_cases hi : i < σ.length
  · simp only [hi, if_true]
    by_cases hv : i ∈ vs
    · simp [hv]
    · simp only [hv, if_false]
      rw [h.2 i (fun z => hv (hl i z)), key]
      simp [hi, hv]
  · simp [hi]
def compL (t : Tg) (ft : FG Bool) (fe : F) (chk : Store → Prop) (τ : Env) : List D → List D → Store → (List D → Store → Prop) → Prop
  | [], acc, S, Q => chk S ∧ Q acc S
  | d :: ds, acc, S, Q => chk S ∧ match bindT t d τ with
    | some τ' => ft τ' S (fun b S1 => if b = true then fe τ' S1 (fun x S2 => acc.length < sizeLine ∧ compL t ft fe chk τ ds (acc ++ [x]) S2 Q) noX else compL t ft fe chk τ ds acc S1 Q) noX
    | none => False
def compF (mu : Bool) (fi : FG Its') (t : Tg) (ft : FG Bool) (fe : F) (vs : List Nat) : F := fun τ S Q E => fi τ S (fun p S1 => compL t ft fe p.2 (wipeE τ vs) p.1 [] S1 (fun acc S2 => newL mu acc τ S2 Q E)) E
section
variable {G : Gr} {W : WX} {fi : FG Its'} {t : Tg} {ft : FG Bool} {fe : F} {vs : List Nat} {mu : Bool} {σ : L2.St} {H : Hp} {Q : VK} {g : TG}
theorem tLc_imp (hvs : ∀ i ∈ slotsT t, i ∈ vs)
    (kg : ∀ (m : Mp) (S : Store) (H : Hp) (σ : L2.St) (τ τ' : Env) (v : V) (d : D) (Q : L2.St → Hp → Prop), SR G m S H → EnvR G m H σ τ → Rep G m H v d → bindT t d τ = some τ' → (∀ σ', EnvR G m H σ' τ' → SameBut (slotsT t) σ σ' → Q σ' H) → g v σ H Q)
    (h : tE G W (compF mu fi t ft fe vs) σ H Q) : tLc (tI G W fi) g (tT G W0 ft) (tE G W0 fe) vs σ H Q := by
  obtain ⟨τ, m, S, QD, QE, sr, er, hf, k, px⟩ := h
  refine ⟨τ, m, S, _, QE, sr, er, hf, fun m1 S1 H1 J pq e1 sr1 ⟨Src, J1, src1⟩ q1 => ?_, px⟩
  obtain ⟨ds, chk⟩ := pq
  intro D hD
  have src1 := src1 S1 sr1
  have h0 := Ext0.hide (m := m1) (o := .lst []) hD
  have srH := sr1.hide hD
  refine ⟨fun i μ H' => μ = ds.length - i ∧ ∃ m' S' acc accD, i ≤ ds.length ∧ m'.hid = D :: m1.hid ∧ Ext m1 H1 (m'.hidAs m1.hid) H' ∧ SR G m' S' H' ∧ EnvR G m' H' (L2.wipe σ vs) (wipeE τ vs) ∧ Src m' S' H' ∧ H' D = some (.lst acc) ∧ RepAll G m' H' acc accD ∧
      compL t ft fe chk (wipeE τ vs) (ds.drop i) accD S' (fun acc S2 => newL mu acc τ S2 QD QE),
    ⟨ds.length, by simp, m1.hide D, S1, [], [], Nat.zero_le _, rfl, ?_, srH, ((er.mono sr e1).mono0 sr1 h0).wipe vs, J1.mono _ _ _ _ _ _ sr1 srH h0 src1, upd_same, .nil, by simpa using q1⟩, ?_⟩
  · have : (m1.hide D).hidAs m1.hid = m1 := rfl
    rw [this]
    exact Ext.upd sr1 hD
  rintro i μ H2 ⟨rfl, m2, S2, acc, accD, hi2, hh2, ec2, sr2, er2, src2, hD2, ra2, c2⟩
  by_cases hl : i < ds.length
  · obtain ⟨d, hd⟩ : ∃ d, ds[i]? = some d := ⟨ds[i], List.getElem?_eq_getElem hl⟩
    have ed : ds.drop i = d :: ds.drop (i + 1) := by
      rw [List.drop_eq_getElem_cons hl]
      congr 1
      rw [List.getElem?_eq_getElem hl] at hd
      exact Option.some.inj hd
    rw [ed] at c2
    obtain ⟨hc2, c2⟩ := c2
    obtain ⟨jg, jy⟩ := J1.go i d m2 S2 H2 sr2 src2 hc2 hd
    refine .inr ⟨jg, fun H' => ∃ m' S' acc accD, m'.hid = D :: m1.hid ∧ Ext m1 H1 (m'.hidAs m1.hid) H' ∧ SR G m' S' H' ∧ EnvR G m' H' (L2.wipe σ vs) (wipeE τ vs) ∧ Src m' S' H' ∧ H' D = some (.lst acc) ∧ RepAll G m' H' acc accD ∧
      compL t ft fe chk (wipeE τ vs) (ds.drop (i + 1)) accD S' (fun acc S2 => newL mu acc τ S2 QD QE), fun H' ⟨m', S', acc, accD, a1, a2, a3, a4, a5, a6, a7, a8⟩ => ⟨ds.length - (i + 1), by omega, rfl, m', S', acc, accD, hl, a1, a2, a3, a4, a5, a6, a7, a8⟩, fun v H3 y3 => ?_⟩
    obtain ⟨e3, sr3, r3⟩ := jy v H3 y3
    have er3 := er2.mono sr2 e3
    have inh2 : D ∈ m2.hid := by rw [hh2]; exact List.mem_cons_self
    -- what stands in the hidden list through a step
    cases q : bindT t d (wipeE τ vs) with
    | none => rw [q] at c2; exact c2.elim
    | some τ3 =>
      rw [q] at c2
      refine kg m2 S2 H3 _ _ τ3 v d _ sr3 er3 r3 q fun σ3 er3' sb => ⟨wipe_congr sb hvs, τ3, m2, S2, _, noX, sr3, er3', c2, fun m4 S4 H4 b b' e4 sr4 rb q4 => ?_, fun _ _ _ _ _ _ _ _ _ z => z.elim⟩
      cases (show b = b' from rb)
      have e24 := e3.trans e4
      have hh4 : m4.hid = D :: m1.hid := e24.hid.trans hh2
      have ec4 := ec2.outer hD hh2 e24
      have src4 := J1.mono _ _ _ _ _ _ sr2 sr4 e24.to0 src2
      have hD4 : H4 D = some (.lst acc) := (e24.hidk D inh2).trans hD2
      cases b with
      | false =>
        rw [if_neg Bool.false_ne_true] at q4 ⊢
        exact ⟨m4, S4, acc, accD, hh4, ec4, sr4, er2.mono sr2 e24, src4, hD4, ra2.mono sr2 e24, q4⟩
      | true =>
        rw [if_pos rfl] at q4 ⊢
        refine ⟨τ3, m4, S4, _, noX, sr4, er3'.mono sr3 e4, q4, fun m5 S5 H5 y x e5 sr5 r5 q5 => ?_, fun _ _ _ _ _ _ _ _ _ z => z.elim⟩
        obtain ⟨hz, q5⟩ := q5
        have e25 := e24.trans e5
        have hh5 : m5.hid = D :: m1.hid := e25.hid.trans hh2
        have in5 : D ∈ m5.hid := by rw [hh5]; exact List.mem_cons_self
        have hD5 : H5 D = some (.lst acc) := (e25.hidk D inh2).trans hD2
        have ra5 := ra2.mono sr2 e25
        have f5 := Ext0.fill (H := H5) (o := .lst (acc ++ [y])) in5
        have sr6 := sr5.fill (xs := acc ++ [y]) in5
        exact ⟨acc, hD5, by rw [ra5.length]; exact hz, m5, S5, acc ++ [y], accD ++ [x], hh5, Ext.outerFill sr1 (ec2.outer hD hh2 e25) hD, sr6, (er2.mono sr2 e25).mono0 sr5 f5, J1.mono _ _ _ _ _ _ sr5 sr6 f5 (J1.mono _ _ _ _ _ _ sr2 sr5 e25.to0 src2), upd_same, (ra5.append (.cons r5 .nil)).mono0 sr5 f5, q5⟩
  · have e : i = ds.length := by omega
    rw [e, List.drop_length] at c2
    obtain ⟨hc2, c2⟩ := c2
    refine .inl ⟨J1.stop i m2 S2 H2 sr2 src2 hc2 (by show ds.length ≤ i; omega), ?_⟩
    have nD : D ∉ m1.hid := fun z => by
      obtain ⟨⟨xs, h⟩, _⟩ := sr1.hidt D z
      rw [hD] at h; cases h
    unfold Dx.newL at c2
    cases mu with
    | false =>
      rw [if_neg Bool.false_ne_true] at c2
      exact k (m2.hidAs m1.hid) S2 H2 _ _ (e1.trans ec2) (sr2.unhide hh2) (rep_unhide sr2 hh2 nD hD2 ra2) c2
    | true =>
      rw [if_pos rfl] at c2
      refine k ((m2.hidAs m1.hid).snoc D) (S2 ++ [.lst accD]) H2 _ _ (e1.trans (Ext.toStore (l := m1.hid) ec2 hD)) (sr2.toStore hh2 nD hD2 ra2) ?_ c2
      rw [sr2.len]
      exact rep_obj (m := m2.hidAs m1.hid)
variable {X : Cx} {elt tg iter : Expr} {ifs : List Expr} {scope : Scope} {own : List (Str × Nat)} {pos pos' spos : Pos}
/-- the parts of a comprehension's block -/
structure BlkE (G : Gr) (X : Cx) (tg elt : Expr) (ifs : List Expr) (scope : Scope) (t : Tg) (ft : FG Bool) (fe : F) : Prop where
  ex : ∃ g : TG, (∀ (s : Shared) (H : Hp) (C : Addr) (cl : List (Str × Addr)) (fp : List Addr), PG (X.blk s H scope (compEnvC scope cl C X.env) fp) tg g) ∧
    ∀ (m : Mp) (S : Store) (H : Hp) (σ : L2.St) (τ τ' : Env) (v : V) (d : D) (Q : L2.St → Hp → Prop), SR G m S H → EnvR G m H σ τ → Rep G m H v d → bindT t d τ = some τ' → (∀ σ', EnvR G m H σ' τ' → SameBut (slotsT t) σ σ' → Q σ' H) → g v σ H Q
  ts : ∀ (s : Shared) (H : Hp) (C : Addr) (cl : List (Str × Addr)) (fp : List Addr), PTs (X.blk s H scope (compEnvC scope cl C X.env) fp) ifs (tT G W0 ft)
  el : ∀ (s : Shared) (H : Hp) (C : Addr) (cl : List (Str × Addr)) (fp : List Addr), PE (X.blk s H scope (compEnvC scope cl C X.env) fp) elt (tE G W0 fe)
theorem e_lc (hc : X.calm = true) (hN : X.N.Nodup) (hi : PI X tg iter (tI G W fi)) (ok : BlkOk X.N X.env.scope scope own) (B : BlkE G X tg elt ifs scope t ft fe) (hs : ∀ x, foldedSetIterable iter X.env x = pure x) (hvs : ∀ i ∈ slotsT t, i ∈ own.map (·.2)) :
    PE X (.ListComp elt [⟨tg, iter, ifs, 0⟩] scope pos) (tE G W (compF mu fi t ft fe (own.map (·.2)))) := by
  obtain ⟨g, h1, h2⟩ := B.ex
  exact PE.imp (pe_lc hc hN hi ok h1 B.ts B.el hs) fun σ H Q h => tLc_imp hvs h2 h
theorem s_setLc {i : Nat} {y : Str} {py : Pos} (hc : X.calm = true) (hN : X.N.Nodup) (hy : X.N[i]? = some y) (hyl : X.env.scope.names.lookup y = some .local)
    (hsw : swapsWith (.ListComp elt [⟨tg, iter, ifs, 0⟩] scope pos) (some (.Name y py)) spos.line X.env = pure true) (hi : PI X tg iter (tI G W fi)) (ok : BlkOk X.N X.env.scope scope own) (B : BlkE G X tg elt ifs scope t ft fe) (hs : ∀ x, foldedSetIterable iter X.env x = pure x) (hvs : ∀ i ∈ slotsT t, i ∈ own.map (·.2)) :
    PS X (.Assign [.Name y py] (.ListComp elt [⟨tg, iter, ifs, 0⟩] scope pos) spos) (tS G W (setS i (compF mu fi t ft fe (own.map (·.2))))) := by
  obtain ⟨g, h1, h2⟩ := B.ex
  refine PS.imp (ps_setLc hc hN hy hyl hsw hi ok h1 B.ts B.el hs) fun D σ H ⟨τ, m, S, h⟩ => ?_
  exact tLc_imp (Q := fun x H1 => gName i x σ H1 D.nx) hvs h2 ⟨τ, m, S, AtS.expr (ρ := rV G) (g := fun d E τ S => E.nx (τ.set i (some d)) S) h fun m1 S1 H1 v d e1 sr1 r1 ⟨E, sr, er, hf, p⟩ => p.nx m1 S1 H1 _ _ (Ext.refl _ _) sr (er.set r1 i) hf⟩
theorem ts_nil {X : Cx} : PTs X [] (tT G W0 (retF true)) := ⟨fun pins s σ H Q I ⟨τ, m, S, h⟩ => pts_nil.run pins s σ H Q I (h.ret m H true (Ext.refl _ _) h.sr rfl)⟩
theorem ts_one {X : Cx} {c : Expr} {ft : FG Bool} (h : PT X c (tT G W0 ft)) : PTs X [c] (tT G W0 ft) := pts_one h
end
end Dx

set_option Elab.async false
set_option linter.all false
set_option maxRecDepth 100000
set_option maxHeartbeats 4000000
/-! DX, part 9: calls by contracts; a def by its body; raise; f(lambda: e). -/
namespace Dx
open PySem PySem.Spec PyProof.Rows L2

/-- a contract: what a caller must show -/
abbrev Ct := List D → Store → (D → Store → Prop) → QX → Prop
def callC (c : Ct) (ds : List D) : F := fun _ S Q E => c ds S Q E
def spD (G : Gr) (n : Nat) (c : Ct) : Sp := fun vs H Q E => ∃ m S ds QD QE, SR G m S H ∧ RepAll G m H vs ds ∧ ds.length = n ∧ c ds S QD QE ∧ PostG G (rV G) m H QD Q ∧
  ∀ (m' : Mp) (S' : Store) (H' : Hp) (cls : Value) (dd : Option Addr) (x : Ex), Ext m H m' H' → SR G m' S' H' → RepX G m' H' cls dd x → QE x S' → E cls dd H'
/-- a contract that asks for so many arguments -/
def Ct.sized (c : Ct) (n : Nat) : Prop := ∀ ds S Q E, c ds S Q E → ds.length = n

section
variable {G : Gr} {X : Cx} {W : WX} {k n : Nat} {f : Addr} {fd : FuncData} {ps : List Str} {c : Ct} {x : Str} {p pos : Pos} {e : Expr} {es : List Expr} {fa : FG (List D)}
theorem e_call (F : FnOk X.prog X.w X.K X.mg X.base (L2.CX X.prog X.w) k f fd ps (spD G n c)) (hc : Ct.sized c n) (hr : Room k X.A) (hg : Gl X x) (hm : X.mg x = some (.ref f)) (hk : PySem.W.keepIn X.K (.ref f) = true) (hb : Binds X.K fd ps []) (tk : Takes X W)
    (ha : PA X (e :: es) (tA G W fa)) (hdb : (x == ("__debug__" : Str)) = false) (he : starEach (e :: es) X.env = (false, eval e X.env) :: starEach es X.env) (hpl : (backTo pos (starEach es X.env)).any (·.1) = false) :
    PE X (.Call (.Name x p) (e :: es) [] pos) (tE G W (bindF fa (callC c))) :=
  PE.imp (pe_callS F hr hg hm hk hb (fun σ => passAt tk σ) ha hdb he hpl) fun σ H Q ⟨τ, m, S, h⟩ => ⟨τ, m, S, h.seq fun m1 S1 H1 vs ds e1 sr1 r1 ⟨QD, QE, sr, er, hf, k, px⟩ => ⟨m1, S1, ds, QD, QE, sr, r1, hc ds S1 QD QE hf, hf, k, fun m' S' H' cls dd x e sr' rx q => px m' S' H' cls dd x e sr' rx q⟩⟩
theorem e_call0 (F : FnOk X.prog X.w X.K X.mg X.base (L2.CX X.prog X.w) k f fd ps (spD G n c)) (hc : Ct.sized c n) (hr : Room k X.A) (hg : Gl X x) (hm : X.mg x = some (.ref f)) (hk : PySem.W.keepIn X.K (.ref f) = true) (hb : Binds X.K fd ps []) (tk : Takes X W)
    (hdb : (x == ("__debug__" : Str)) = false) : PE X (.Call (.Name x p) [] [] pos) (tE G W (callC c [])) := by
  refine ⟨fun pins s σ H Q I ⟨τ, m, S, QD, QE, sr, er, hf, kk, px⟩ => ?_⟩
  refine wpAny_Call_Name_kw (ld_glob I hg hm ?_ hdb)
  exact PySem.W.callWith_K0 I.kIn hk (run_fnS (us := []) (vs := []) (E := WE W) F hr hb (passAt tk σ) I .nil ⟨m, S, [], QD, QE, sr, .nil, hc [] S QD QE hf, hf, kk, fun m' S' H' cls dd x e sr' rx q => px m' S' H' cls dd x e sr' rx q⟩)
end

/-! ### a def's body -/
def startE (N : List Str) (ds : List D) : Env := ds.map some ++ List.replicate (N.length - ds.length) none
theorem start_env {G : Gr} {m : Mp} {H : Hp} {N : List Str} {vs : List V} {ds : List D} (r : RepAll G m H vs ds) : EnvR G m H (L2.start N vs) (startE N ds) := by
  refine ⟨by simp [L2.start, startE, r.length], fun i d h => ?_⟩
  unfold startE at h
  by_cases hi : i < ds.length
  · rw [List.getElem?_append_left (by simpa using hi), List.getElem?_map] at h
    obtain ⟨d', h1, h2⟩ := Option.map_eq_some_iff.mp h
    cases h2
    obtain ⟨v, hv, rv⟩ := r.get h1
    refine ⟨v, ?_, rv⟩
    unfold L2.start
    rw [List.getElem?_append_left (by simp [r.length]; exact hi), List.getElem?_map, hv]
    rfl
  · rw [List.getElem?_append_right (by simpa using hi), List.getElem?_replicate] at h
    split at h <;> cases h
/-- what a body owes its contract -/
def bodyEnds (QD : D → Store → Prop) (QE : QX) : DEnds := { nx := fun _ S => QD .non S, rt := QD, ex := fun x _ S => QE x S }
section
variable {G : Gr} {P : Program} {w : World} {mg : Str → Option Value} {base : Heap} {k n : Nat} {f : Addr} {name qual : Str} {params : Arguments} {body : List Stmt} {scope : Scope} {dV kV doc pm cdv ct oc : Value} {an od : Option Addr}
    {osl : Array (Option Value)} {N ps : List Str} {c : Ct} {fs : FS}
theorem fn_ok (lk : G.K.lookup f = some ⟨oc, od, .func (PySem.W.fnOf name qual params body scope dV kV doc pm an cdv ct), osl⟩) (hcd : PySem.W.codeIn G.K cdv qual = true) (S : FnScope N ps scope) (hn : ps.length = n)
    (hbody : ∀ (A : Around) (outer : List PySem.Env) (s : Shared) (H : Hp) (E : XK), Room k (A.deeper (envOfC qual scope s.heap.objs.size f cdv)) →
      PSs (cxOf (L2.CX P w) P w G.K mg base N qual scope f cdv A outer s H E) body (tS G (fun cls d _ H => E cls d H) fs))
    (hfs : ∀ ds S Q E, ds.length = n → c ds S Q E → fs (bodyEnds Q E) (startE N ds) S) :
    FnOk P w G.K mg base (L2.CX P w) (k + 1) f (PySem.W.fnOf name qual params body scope dV kV doc pm an cdv ct) ps (spD G n c) := by
  refine fn_of lk hcd S (fun vs H Q E ⟨m, S, ds, QD, QE, sr, r, hl, _⟩ => by rw [r.length, hl, hn]) fun A outer s H vs Q E hr ⟨m, S, ds, QD, QE, sr, r, hl, hc, kk, px⟩ => ?_
  refine ⟨_, hbody A outer s H E hr, startE N ds, m, S, bodyEnds QD QE, sr, start_env r, hfs ds S QD QE hl hc, ?_⟩
  exact ⟨fun m' S' H' σ' τ' e sr' er q => kk m' S' H' .non .non e sr' .non q, kk, fun _ _ _ _ _ _ _ _ z => z.elim, fun _ _ _ _ _ _ _ _ z => z.elim, fun m' S' H' σ' τ' cls dd x e sr' er rx q => px m' S' H' cls dd x e sr' rx q⟩
end

/-! ### raise X('..') -/
def raiseS (x : Str) : FS := fun E τ S => E.ex ⟨x, []⟩ τ S
section
variable {G : Gr} {X : Cx} {W : WX} {C : Addr} {bmB : List Value} {B newId initId : String} {x m : Str} {j : Nat} {p p2 pos pos2 : Pos}
theorem s_raise (hmg : X.mg = G.mg) (hc : X.calm = true) (tk : Takes X W) (F : ExcBaseFacts B newId initId bmB) (q : PySem.W.excIn X.K C bmB newId = true) (gC : X.mg x = some (.ref C)) (kC : PySem.W.keepIn X.K (.ref C) = true) (r : Raises X (.ref C)) (hg : Gl X x)
    (hdb : (x == ("__debug__" : Str)) = false) : PS X (.Raise (some (.Call (.Name x p) [.Constant (.str m) j p2] [] pos)) none pos2) (tS G W (raiseS x)) :=
  PS.imp (ps_raise hc tk (pmk_own F q gC kC r hg hdb)) fun D σ H ⟨τ, mm, S, E, sr, er, hf, pp⟩ => pp.ex mm S H σ τ _ _ _ (Ext.refl _ _) sr er ⟨⟨C, hmg ▸ gC, rfl⟩, .inl rfl⟩ hf
end
end Dx

set_option Elab.async false
set_option linter.all false
set_option maxRecDepth 100000
set_option maxHeartbeats 4000000
/-! DX, part 10: f(lambda: e), f a def that tells an error's word. -/
namespace Dx
open PySem PySem.Spec PyProof.Rows L2

/-- which handler takes a class: by names -/
structure Hd where
  cls : Str
  ret : Str
def wHd (K : PySem.W.Frag) (Q : VK) : List (Value × Str) → Value → Hp → Prop
  | [], _, _ => False
  | (c, r) :: l, cls, H => ∃ b, PySem.W.exmOne K cls c = some b ∧ (b = true → Q (.str r) H) ∧ (b = false → wHd K Q l cls H)
def TTm (K : PySem.W.Frag) (l : List (Value × Str)) (dflt : Str) : (XK → Hp → VK → Prop) → Hp → VK → Prop := fun tl H Q => tl (fun cls _ H' => wHd K Q l cls H') H (fun _ H' => Q (.str dflt) H')
/-- the handlers' texts -/
inductive HdsM (X : Cx) : List ExceptHandler → List (Value × Str) → Prop
  | nil : HdsM X [] []
  | cons {x ret : Str} {C : Addr} {j : Nat} {np p1 p2 pos' : Pos} {hds : List ExceptHandler} {l : List (Value × Str)} (hge : Gl X x) (hde : (x == ("__debug__" : Str)) = false) (hme : X.mg x = some (.ref C)) (r : HdsM X hds l) :
      HdsM X (.ExceptHandler (some (.Name x np)) none [.Return (some (.Constant (.str ret) j p1)) p2] pos' :: hds) ((.ref C, ret) :: l)
def tsM (l : List (Value × Str)) : List (Value × (Addr → Value → Option Addr → TS)) := l.map fun q => (q.1, fun _ _ _ => tRet (tC (.str q.2)))
theorem HdsM.ok {X : Cx} {hds : List ExceptHandler} {l : List (Value × Str)} (h : HdsM X hds l) : HdsOk X hds (tsM l) := by
  induction h with
  | nil => exact .nil
  | cons hge hde hme r ih => exact .cons ⟨hge, hde, .inl hme⟩ (fun a oe cls d pn _ _ => pss_one (ps_ret pe_str)) ih
theorem wMany_of {K : PySem.W.Frag} {D : Ends} {σ : L2.St} {d : Option Addr} : ∀ {l : List (Value × Str)} {cls : Value} {H : Hp}, wHd K D.rt l cls H → wMany K (fun _ _ _ _ => False) D (tsM l) cls d σ H
  | [], _, _, h => h.elim
  | (c, r) :: l, cls, H, ⟨b, h1, h2, h3⟩ => ⟨b, h1, fun e a _ => h2 e, fun e => wMany_of (h3 e)⟩
theorem gives_many {X : Cx} {Ng : List Str} {x a q dflt : Str} {sg : Scope} {g : Addr} {cdg : Value} {j : Nat} {p1 p2 p3 p4 p5 p6 : Pos} {h0 : ExceptHandler} {hds : List ExceptHandler} {l : List (Value × Str)}
    (hh : ∀ (s : Shared) (H : Hp), HdsM (cxOf C8.CX0 X.prog X.w X.K X.mg X.base Ng x sg g cdg X.A X.stack s H C8.E0).nox (h0 :: hds) l) (h0' : ∀ f : Addr, (L2.start Ng [V.ref f])[0]? = some (some (V.ref f)))
    (hsw : ∀ env : PySem.Env, swapsWith (.Call (.Name a p1) [] [] p2) none p3.line env = pure false) :
    LamX.GivesTo X Ng x sg g cdg [.Try [.Expr (.Call (.Name a p1) [] [] p2) p3] (h0 :: hds) [] [] p4, .Return (some (.Constant (.str dflt) j p5)) p6] a q (TTm X.K l dflt) := by
  intro f c' s H Q tl act hc h
  refine ⟨_, pss_cons (ps_try_many (X := (cxOf C8.CX0 X.prog X.w X.K X.mg X.base Ng x sg g cdg X.A X.stack s H C8.E0).nox) (l := tsM l)
      (tb := fun W D σ H => ∃ Ech : XK, (∀ cls d σ' H', Ech cls d H' → W cls d σ' H') ∧ σ[0]? = some (some (.ref f)) ∧ H c' = some (LamX.CodeO c' q) ∧ tl Ech H (fun _ H' => D.nx σ H'))
      rfl rfl LamX.takes0 (fun W pn xe tk _ => ?_) (hh s H).ok) (pss_one (ps_ret pe_str)), ?_⟩
  · refine ⟨fun pins s' σ H' D I h' => ?_⟩
    obtain ⟨Ech, hW, h1, h2, h3⟩ := h'
    have hp := act W pn xe Ech p1 p2 tk hW
    have hq := pss_one (ps_expr (pos := p3) hp (hsw _))
    exact hq.run pins s' σ H' D I ⟨h1, h2, h3⟩
  · exact ⟨fun cls _ H' => wHd X.K Q l cls H', fun cls d σ' H' z => wMany_of z, h0' f, hc, h⟩

/-- the reading: the body, its error told as a word -/
def lamH (hs : List (Str × Bool × Str)) : Option Str := match hs.find? (·.2.1) with
  | some q => some q.2.2
  | none => none
/-- word x: what the handlers make of the class x -/
def lamF (word : Str → Option Str) (dflt : Str) (f : F) : F := fun τ S Q _ => f τ S (fun _ S' => Q (.str dflt) S') (fun x S' => match word x.cls with
  | some r => Q (.str r) S'
  | none => False)
/-- what the classes say of one another -/
def WordOk (G : Gr) (l : List (Value × Str)) (word : Str → Option Str) : Prop :=
  ∀ (x r : Str) (C : Addr), word x = some r → G.mg x = some (.ref C) → ∀ (Q : VK) (H : Hp), Q (.str r) H → wHd G.K Q l (.ref C) H
theorem Ext.ofN {G : Gr} {m : Mp} {S : Store} {H H1 : Hp} (sr : SR G m S H) (e : LamX.ExtN H H1) : Ext m H m H1 where
  len := Nat.le_refl _
  old := fun _ _ _ h => h
  new := fun n a h z => by rw [List.getElem?_eq_none (by omega)] at z; cases z
  keep := fun b o h _ t => e b o h t
  there := fun b h o q => by
    by_cases t : ∃ ps, o = .tbl ps
    · exact t
    · exact h o (e b o q fun ps z => t ⟨ps, z⟩)
  hid := rfl
  hidk := fun a ha => by
    obtain ⟨⟨xs, hx⟩, _⟩ := sr.hidt a ha
    rw [hx]
    exact e a _ hx fun ps z => by cases z
theorem SR.ofN {G : Gr} {m : Mp} {S : Store} {H H1 : Hp} (sr : SR G m S H) (e : LamX.ExtN H H1) (t : LamX.Tabs G.T H1) : SR G m S H1 := by
  have ex := Ext.ofN sr e
  refine ⟨sr.len, sr.inj, fun n a o h1 h2 => ?_, t, sr.dead, fun a ha => ?_⟩
  · have z := sr.at_ n a o h1 h2
    cases o with
    | dead => exact z.elim
    | lst es => obtain ⟨ys, h, q⟩ := z; exact ⟨ys, e a _ h (fun ps z => by cases z), q.mono sr ex⟩
    | dct kvs => obtain ⟨ys, h, q⟩ := z; exact ⟨ys, e a _ h (fun ps z => by cases z), q.mono sr ex⟩
  · obtain ⟨⟨xs, hx⟩, h⟩ := sr.hidt a ha
    exact ⟨⟨xs, e a _ hx fun ps z => by cases z⟩, h⟩
section
variable {G : Gr} {X : Cx} {W : WX} {x a dflt : Str} {g c P : Addr} {k : Nat} {pg : Arguments} {bg : List Stmt} {sg : Scope} {Ng : List Str} {fd : FuncData} {params : Arguments} {body : Expr} {scope : Scope} {fb : F} {p lpos pos : Pos} {l : List (Value × Str)} {word : Str → Option Str}
theorem e_lam (hK : X.K = G.K) (hMg : X.mg = G.mg) (hg : Gl X x) (hm : X.mg x = some (.ref g)) (D : FunD X.K x x pg bg sg [] [] g fd) (Sg : FnScope Ng [a] sg) (hNg : Ng[0]? = some a) (hva : Vis sg a)
    (hbg : ∀ (kV doc pm : Value) (an : Option Addr) (cdv ct : Value) (us : List Value), us.length = ([a] : List Str).length → bindArgs (PySem.W.fnOf x x pg bg sg Value.none kV doc pm an cdv ct) { pos := us } = pure (([a] : List Str).zip us))
    (hG : ∀ cdv : Value, LamX.GivesTo X Ng x sg g cdv bg a (X.env.qual ++ "<lambda>") (TTm X.K l dflt)) (hw : WordOk G l word)
    (TB : LamX.TabB X.base X.mg c P) (hcode : X.env.code = .ref c) (hmT : (P, X.env.qual ++ "<lambda>") ∈ G.T) (hu : ∀ p ∈ G.T, p.1 = P → p.2 = X.env.qual ++ "<lambda>") (hr : Room (k + 2) X.A) (L : LamX.LamS X.env.scope scope) (hdef : defaultsOf params X.env = ([], []))
    (hbind : ∀ (q : Str) (cl : List (Str × Addr)) (pm cv ctv : Value), bindArgs (PySem.W.kla_fn "<lambda>" q params body scope cl pm cv ctv) ⟨[], []⟩ = pure [])
    (hbody : ∀ (A : Around) (outer : List PySem.Env) (s : Shared) (H : Hp) (E : XK) (f c' : Addr), Room k (A.deeper (LamX.lamEnv X scope s.heap.objs.size f c')) → PE (LamX.lamCx X A outer s H E scope f c') body (tE G (fun cls d _ H => E cls d H) fb))
    (hdb : (x == ("__debug__" : Str)) = false := by decide) (hd : (a == ("__debug__" : Str)) = false := by decide) (hcd : (a == ("__classdict__" : Str)) = false := by decide) :
    PE X (.Call (.Name x p) [.Lambda params body scope lpos] [] pos) (tE G W (lamF word dflt fb)) := by
  have bnd : L2.Binds X.K fd [a] [] := D.bindsN hbg
  obtain ⟨⟨oc, od, dV, kV, doc, pm, an, cdv, ct, osl, rfl, lk, hcd', dfl, kwd⟩, kp⟩ := D
  refine PE.imp (LamX.pe_lamcall (T := G.T) hg hm kp lk hcd' bnd Sg hNg hva (hG cdv) TB hcode hmT hu hr L hdef hbind hbody hdb hd hcd) fun σ H Q ⟨τ, m, S, QD, QE, sr, er, hf, kk, px⟩ => ?_
  refine ⟨sr.tabs, fun H1 eN T1 => ?_⟩
  have e1 := Ext.ofN sr eN
  have sr1 := sr.ofN eN T1
  refine ⟨τ, m, S, _, _, sr1, er.mono sr e1, hf, fun m2 S2 H2 v d e2 sr2 r2 q => kk m2 S2 H2 _ _ (e1.trans e2) sr2 (.str _) q, fun m2 S2 H2 cls dd xx e2 sr2 rx q => ?_⟩
  dsimp only at q
  split at q
  · rename_i r hr
    obtain ⟨C, hC, rfl⟩ := rx.cls
    rw [hK]
    exact hw _ _ C hr hC Q H2 (kk m2 S2 H2 _ _ (e1.trans e2) sr2 (.str _) q)
  · exact q.elim
end
end Dx

set_option Elab.async false
set_option linter.all false
set_option maxRecDepth 100000
set_option maxHeartbeats 4000000
/-! DX, part 11: a def with its contract; the end of a law. -/
namespace Dx
open PySem PySem.Spec PyProof.Rows L2

/-- the module's def x keeps the contract c, by at most level k -/
def Has (P : Program) (w : World) (G : Gr) (base : Heap) (x : Str) (ps : List Str) (k : Nat) (c : Ct) : Prop :=
  ∃ (f : Addr) (fd : FuncData), FnOk P w G.K G.mg base (L2.CX P w) k f fd ps (spD G ps.length c) ∧ G.mg x = some (.ref f) ∧ PySem.W.keepIn G.K (.ref f) = true ∧
    (∀ (s : Shared) (us : List Value), us.length = ps.length → BindsTo s fd ⟨us, []⟩ (ps.zip us)) ∧ ∃ (oc : Value) (od : Option Addr) (osl : Array (Option Value)), G.K.lookup f = some ⟨oc, od, .func fd, osl⟩
theorem Has.mono {P : Program} {w : World} {G : Gr} {base : Heap} {x : Str} {ps : List Str} {j k : Nat} {c : Ct} (h : Has P w G base x ps j c) (hk : j ≤ k) : Has P w G base x ps k c :=
  let ⟨f, fd, a, b, d, e⟩ := h
  ⟨f, fd, a.mono hk, b, d, e⟩
/-- a contract that asks more -/
theorem spD_imp {G : Gr} {n : Nat} {c c' : Ct} (h : ∀ ds S Q E, c' ds S Q E → c ds S Q E) (vs : List V) (H : Hp) (Q : VK) (E : XK) (z : spD G n c' vs H Q E) : spD G n c vs H Q E := by
  obtain ⟨m, S, ds, QD, QE, sr, r, hl, hc, k, px⟩ := z
  exact ⟨m, S, ds, QD, QE, sr, r, hl, h _ _ _ _ hc, k, px⟩
theorem Has.imp {P : Program} {w : World} {G : Gr} {base : Heap} {x : Str} {ps : List Str} {k : Nat} {c c' : Ct} (h : Has P w G base x ps k c) (hc : ∀ ds S Q E, c' ds S Q E → c ds S Q E) : Has P w G base x ps k c' :=
  let ⟨f, fd, a, b, d, e⟩ := h
  ⟨f, fd, a.imp (fun vs H Q E z => spD_imp hc vs H Q E z), b, d, e⟩
section
variable {P : Program} {w : World} {G : Gr} {base : Heap} {x : Str} {N ps : List Str} {k : Nat} {c : Ct} {fs : FS} {st : Stmt} {f : Addr} {fd : FuncData}
/-- a def by its body -/
theorem has_of (D : FunD G.K x x (defArgs st) (defBody st) (defScope st) [] [] f fd) (hm : G.mg x = some (.ref f)) (S : FnScope N ps (defScope st))
    (hb : ∀ (kV doc pm : Value) (an : Option Addr) (cdv ct : Value) (us : List Value), us.length = ps.length → bindArgs (PySem.W.fnOf x x (defArgs st) (defBody st) (defScope st) Value.none kV doc pm an cdv ct) { pos := us } = pure (ps.zip us))
    (hbody : ∀ (cdv : Value) (A : Around) (outer : List PySem.Env) (s : Shared) (H : Hp) (E : XK), (∃ (oc : Value) (od : Option Addr) (fd : FuncData) (osl : Array (Option Value)), G.K.lookup f = some ⟨oc, od, .func fd, osl⟩ ∧ fd.code = cdv ∧ ∃ cc, cdv = .ref cc) → Room k (A.deeper (envOfC x (defScope st) s.heap.objs.size f cdv)) →
      PSs (cxOf (L2.CX P w) P w G.K G.mg base N x (defScope st) f cdv A outer s H E) (defBody st) (tS G (fun cls d _ H => E cls d H) fs))
    (hfs : ∀ ds S Q E, ds.length = ps.length → c ds S Q E → fs (bodyEnds Q E) (startE N ds) S) : Has P w G base x ps (k + 1) c := by
  have bnd := D.bindsA hb
  obtain ⟨⟨oc, od, dV, kV, doc, pm, an, cdv, ct, osl, rfl, lk, hcd', dfl, kwd⟩, kp⟩ := D
  exact ⟨f, _, fn_ok lk hcd' S rfl (fun A outer s H E hr => hbody cdv A outer s H E ⟨oc, od, _, osl, lk, rfl, He.codeIn_ref hcd'⟩ hr) hfs, hm, kp, bnd, _, _, _, lk⟩
end
/-- where nothing is asked -/
theorem has_never {P : Program} {w : World} {G : Gr} {base : Heap} {x : Str} {ps : List Str} {st : Stmt} {f : Addr} {fd : FuncData} (D : FunD G.K x x (defArgs st) (defBody st) (defScope st) [] [] f fd) (hm : G.mg x = some (.ref f))
    (hb : ∀ (kV doc pm : Value) (an : Option Addr) (cdv ct : Value) (us : List Value), us.length = ps.length → bindArgs (PySem.W.fnOf x x (defArgs st) (defBody st) (defScope st) Value.none kV doc pm an cdv ct) { pos := us } = pure (ps.zip us)) : Has P w G base x ps 0 (fun _ _ _ _ => False) := by
  have bnd := D.bindsA hb
  obtain ⟨⟨oc, od, dV, kV, doc, pm, an, cdv, ct, osl, rfl, lk, hcd', dfl, kwd⟩, kp⟩ := D
  exact ⟨f, _, ⟨fun vs H Q E ⟨_, _, _, _, _, _, _, _, z, _⟩ => z.elim, fun _ _ _ _ _ _ _ _ _ _ _ _ _ ⟨_, _, _, _, _, _, _, _, z, _⟩ => z.elim⟩, hm, kp, bnd, _, _, _, lk⟩
theorem never_sized {n : Nat} : Ct.sized (fun _ _ _ _ => False) n := fun _ _ _ _ h => h.elim
section
variable {G : Gr} {X : Cx} {W : WX} {k : Nat} {x : Str} {ps : List Str} {c : Ct} {p pos : Pos} {e : Expr} {es : List Expr} {fa : FG (List D)}
/-- x(..), x a def of the module -/
theorem e_fn (h : Has X.prog X.w G X.base x ps k c) (hK : X.K = G.K) (hM : X.mg = G.mg) (hc : Ct.sized c ps.length) (hr : Room k X.A) (hg : Gl X x) (tk : Takes X W)
    (ha : PA X (e :: es) (tA G W fa)) (hdb : (x == ("__debug__" : Str)) = false) (he : starEach (e :: es) X.env = (false, eval e X.env) :: starEach es X.env) (hpl : (backTo pos (starEach es X.env)).any (·.1) = false) :
    PE X (.Call (.Name x p) (e :: es) [] pos) (tE G W (bindF fa (callC c))) := by
  obtain ⟨f, fd, F, hm, kp, b, _⟩ := h
  rw [← hK, ← hM] at F
  exact e_call F hc hr hg (by rw [hM]; exact hm) (by rw [hK]; exact kp) (fun s us _ hl => by rw [List.append_nil] at hl ⊢; exact b s us hl) tk ha hdb he hpl
theorem e_fn0 (h : Has X.prog X.w G X.base x ps k c) (hK : X.K = G.K) (hM : X.mg = G.mg) (hc : Ct.sized c ps.length) (hr : Room k X.A) (hg : Gl X x) (tk : Takes X W) (hdb : (x == ("__debug__" : Str)) = false) :
    PE X (.Call (.Name x p) [] [] pos) (tE G W (callC c [])) := by
  obtain ⟨f, fd, F, hm, kp, b, _⟩ := h
  rw [← hK, ← hM] at F
  exact e_call0 F hc hr hg (by rw [hM]; exact hm) (by rw [hK]; exact kp) (fun s us _ hl => by rw [List.append_nil] at hl ⊢; exact b s us hl) tk hdb
/-- a number of the module -/
theorem e_glob {i : Int} {t : Tok} (hg : Gl X x) (hm : X.mg x = some (.int i t)) (hdb : (x == ("__debug__" : Str)) = false) : PE X (.Name x pos) (tE G W (retF (.int i))) :=
  e_const (v := .int i) (pe_glob hg hm ⟨t, rfl⟩ hdb) fun m H => .int i
end

/-! ### the end -/
/-- no list of the written part but plain ones -/
def plainL (K : PySem.W.Frag) : Bool := K.all fun q => match q.2 with
  | ⟨.type _, none, .seq _ _, sl⟩ => sl.isEmpty
  | _ => true
theorem plainL_ok {K : PySem.W.Frag} (h : plainL K = true) {H : Hp} {a : Addr} {xs : List V} (s : SqL K H a xs) : SqX K H a xs := by
  rcases s with s | ⟨o, its, n, lk, h1, h2, h3, h4, h5⟩
  · exact .inl s
  · obtain ⟨oc, od, dt, osl⟩ := o
    dsimp only at h1 h2 h3
    subst h1 h2 h3
    have q := List.all_eq_true.mp h _ (He.lookup_mem lk)
    have e : osl = #[] := Array.isEmpty_iff.mp q
    subst e
    exact .inr ⟨its.toList, n, by simpa using lk, by simpa using h4, by simpa using h5⟩
/-- a script as data -/
def scr (ns : List Int) : List D := ns.map .int
theorem repScr {G : Gr} {m : Mp} {H : Hp} : ∀ ns : List Int, RepAll G m H (ns.map V.int) (scr ns)
  | [] => .nil
  | n :: r => .cons (.int n) (repScr r)
def tabsOf (tf : List He.Defn) (K : PySem.W.Frag) : List (Addr × Str) := tf.map fun p => ((He.cT K p).2, p.1 ++ ".<locals>." ++ "<lambda>")
def dd (x : Str) (st : Stmt) : He.DefD := ⟨(x, none), x, x, defArgs st, defBody st, defScope st, [], []⟩
theorem defs_fun {fa : List He.Fa} {fn : List He.DefD} {K : PySem.W.Frag} (Y : He.SaysD fa fn K) {x : Str} {st : Stmt} (h : dd x st ∈ fn) : ∃ fd, FunD K x x (defArgs st) (defBody st) (defScope st) [] [] (He.ga K x) fd := Y.defs h
theorem dx_walk {l : PySem.W.OpenLaw} {n nn k : Nat} {q : Program} {loose : List Str} {XP : (Str → Option Value) → Heap → Prop} {d : DefRec} {fa : List He.Fa} {fn : List He.DefD} {tf : List He.Defn} {ex : PySem.W.Frag → Bool} {nm x : Str} {c : World → Gr → Ct} {st : Stmt}
    (hn : l.most = some n) (hn2 : n ≤ sizeLine) (hdf : d.params.defaults = []) (hnm : d.name = nm) (hr : Room k callerA) (hpl : ∀ K, ex K = true → plainL K = true) (hdl : dd nm st ∈ fn) (hgl : He.Fa.glo nm ∈ fa)
    (hb : ∀ (kV doc pm : Value) (an : Option Addr) (cdv ct : Value) (us : List Value), us.length = ([x] : List Str).length → bindArgs (PySem.W.fnOf nm nm (defArgs st) (defBody st) (defScope st) Value.none kV doc pm an cdv ct) { pos := us } = pure (([x] : List Str).zip us))
    (F : ∀ (w : World) (mg : Str → Option Value) (h : Heap) (K : PySem.W.Frag), K.In h → h.Ns mainGlobals mg → He.SaysX fa fn [] tf ex w h K → ∀ base : Heap, K.In base → base.Ns mainGlobals mg → (∀ p ∈ tf, LamX.TabB base mg (He.cT K p).1 (He.cT K p).2) →
      Has l.prog w ⟨K, mg, tabsOf tf K⟩ base nm [x] k (c w ⟨K, mg, tabsOf tf K⟩))
    (hc : ∀ (w : World) (G : Gr) (ns : List Int), ns.length ≤ n → (∀ z ∈ ns, Builtin.Int.intBits z ≤ 1048576) → c w G [.lst (scr ns)] [] (fun d _ => d = .bl true) noX) :
    PySem.W.WalkO q loose XP (He.hookX nn fa fn [] tf ex).says l.row.toRowW d [] (fun f vs => PySem.call f vs) := by
  subst hnm
  refine LamX.walk_ofTsE (CX := fun w => L2.CX l.prog w) (x := x) hn hn2 hdf hr (fun w mg fad h ⟨K, KX, Y⟩ G hmg => ⟨K, KX, ?_⟩) fun w H s e s' z => ?_
  · have key := F w mg h K KX G Y
    obtain ⟨fd, D⟩ := defs_fun Y.t.d hdl
    have hg2 := He.glo_ok KX G (Y.t.d.facts hgl)
    rw [hg2] at hmg
    cases hmg
    refine ⟨fd, tf.map (He.cT K), spD ⟨K, mg, tabsOf tf K⟩ 1 (c w ⟨K, mg, tabsOf tf K⟩), fun p hp => ?_, fun p hp => ?_, fun p hp => ?_, fun s u => D.bindsA hb s [u] rfl, fun H a ns hlen hbits hH hS => ?_, fun base Kb Gb hT => ?_⟩
    · obtain ⟨q, hq, rfl⟩ := List.mem_map.mp hp
      exact Y.empty q hq
    · obtain ⟨q, hq, rfl⟩ := List.mem_map.mp hp
      exact Y.out q hq
    · obtain ⟨q, hq, rfl⟩ := List.mem_map.mp hp
      exact PySem.W.codeHd_of_K KX (Y.hd q hq)
    · have tb : LamX.Tabs (tabsOf tf K) H := fun p hp => by
        obtain ⟨q, hq, rfl⟩ := List.mem_map.mp hp
        exact .nil (hH _ (List.mem_map.mpr ⟨q, hq, rfl⟩))
      refine ⟨⟨[], []⟩, [], [.lst (scr ns)], fun d _ => d = .bl true, noX, ⟨rfl, fun i j a h => (by cases h), fun i a o h => (by cases h), tb, fun i h => (by cases h), fun a h => (by cases h)⟩, ?_, rfl, hc w _ ns hlen hbits, fun m' S' H' v dd e sr r q => ?_, fun _ _ _ _ _ _ _ _ _ z => z.elim⟩
      · refine .cons ?_ .nil
        rcases plainL_ok (hpl K Y.more) hS with h | h
        · exact .lst h (by rintro (⟨i, z⟩ | z) <;> cases z) (repScr ns)
        · exact .klst h (repScr ns)
      · subst q
        cases r
        rfl
    · obtain ⟨f, fd2, F, hm, kp, b, oc, od, osl, lk⟩ := key base Kb Gb fun p hp => hT _ (List.mem_map.mpr ⟨p, hp, rfl⟩)
      have hm : mg d.name = some (.ref f) := hm
      rw [hg2] at hm
      cases hm
      obtain ⟨⟨oc', od', dV, kV, doc, pm, an, cdv, ct, osl', e, lk', hcd', dfl, kwd⟩, kp'⟩ := D
      have lk : K.lookup (He.ga K d.name) = _ := lk
      rw [lk'] at lk
      cases lk
      exact F
  · obtain ⟨_, _, _, _, _, _, _, _, _, _, _, _, z⟩ := z
    exact z.elim
end Dx

set_option Elab.async false
set_option linter.all false
set_option maxRecDepth 100000
set_option maxHeartbeats 4000000
/-! DX, part 12: the rules with their small premises filled in; short names for readings. -/
namespace Dx
open PySem PySem.Spec PyProof.Rows L2

/-! ### short names -/
abbrev binE (g : D → D → F) (fa fb : F) : F := bindF fa fun x => bindF fb fun y => g x y
abbrev idxE (fa fb : F) : F := bindF fa fun x => bindF fb fun y => idxF x y
abbrev slcE (mu : Bool) (fa : F) (fl fh : FG (Option Int)) : F := bindF fa fun x => bindF fl fun l => bindF fh fun h => slcF mu x l h
abbrev someI (fa : F) : FG (Option Int) := bindF fa intF
abbrev tupE (g : FG (List D)) : F := bindF g fun ds τ S Q E => ds.length ≤ sizeLine ∧ Q (.tup ds) S
abbrev lstE (mu : Bool) (g : FG (List D)) : F := bindF g fun ds τ S Q E => ds.length ≤ sizeLine ∧ newL mu ds τ S Q E
abbrev cmpT (g : D → D → F) (fa fb : F) : FG Bool := bindF fa fun x => bindF fb fun y => bindF (g x y) truF
abbrev truT (f : F) : FG Bool := bindF f truF
abbrev negE (f : F) : F := bindF f fun x => optF fun _ => match x with | .int i => some (.int (-i)) | _ => none
abbrev callE (c : Ct) (fa : FG (List D)) : F := bindF fa (callC c)
abbrev biE (g : List D → F) (fa : FG (List D)) : F := bindF fa g
abbrev itE (f : F) : FG Its' := bindF f itsF
abbrev int! (i : Int) : F := retF (.int i)
abbrev str! (x : Str) : F := retF (.str x)
abbrev non! : F := retF .non
abbrev bl! (b : Bool) : F := retF (.bl b)
abbrev ty! (n : String) : F := retF (.ty n)
abbrev frzE (f : F) : F := bindF f frzF
def fdivG (x y : D) : F := optF (o2I cDiv (fun i j => .int (i.fdiv j)) x y)
def modG (x y : D) : F := optF (o2I (fun _ j => !decide (j = 0)) (fun i j => .int (i.fmod j)) x y)
def powG (x y : D) : F := optF (o2I cPow (fun i j => .int (i ^ j.toNat)) x y)
def shlG (x y : D) : F := optF (o2I cPow (fun i j => .int (i * 2 ^ j.toNat)) x y)
def shrG (x y : D) : F := optF (o2I (fun _ j => decide (0 ≤ j)) (fun i j => .int (i / 2 ^ j.toNat)) x y)
def ltG (x y : D) : F := optF (o2I (fun _ _ => true) (fun i j => .bl (decide (i < j))) x y)
def leG (x y : D) : F := optF (o2I (fun _ _ => true) (fun i j => .bl (decide (i ≤ j))) x y)
def gtG (x y : D) : F := optF (o2I (fun _ _ => true) (fun i j => .bl (decide (j < i))) x y)
def geG (x y : D) : F := optF (o2I (fun _ _ => true) (fun i j => .bl (decide (j ≤ i))) x y)
def eqG (x y : D) : F := optF (eqO x y)
def neG (x y : D) : F := optF (neO x y)
def isG (x y : D) : F := optF (isO false x y)
def isnG (x y : D) : F := optF (isO true x y)
def inG (x y : D) : F := optF (inO false x y)
def ninG (x y : D) : F := optF (inO true x y)

/-! ### a def's context -/
abbrev FX (P : Program) (w : World) (G : Gr) (base : Heap) (N : List Str) (x : Str) (st : Stmt) (f : Addr) (cdv : Value) (A : Around) (outer : List PySem.Env) (s : Shared) (H : Hp) (E : XK) : Cx :=
  cxOf (L2.CX P w) P w G.K G.mg base N x (defScope st) f cdv A outer s H E
abbrev WEx (E : XK) : WX := fun cls d _ H => E cls d H
theorem tkF {P : Program} {w : World} {G : Gr} {base : Heap} {N : List Str} {x : Str} {st : Stmt} {f : Addr} {cdv : Value} {A : Around} {outer : List PySem.Env} {s : Shared} {H : Hp} {E : XK} : Takes (FX P w G base N x st f cdv A outer s H E) (WEx E) := takes_of rfl rfl rfl rfl
theorem poF {P : Program} {w : World} {G : Gr} {base : Heap} {N : List Str} {x : Str} {st : Stmt} {f : Addr} {cdv : Value} {A : Around} {outer : List PySem.Env} {s : Shared} {H : Hp} {E : XK} : PassesOwn (model (FX P w G base N x st f cdv A outer s H E).prog (FX P w G base N x st f cdv A outer s H E).w) (FX P w G base N x st f cdv A outer s H E).A (FX P w G base N x st f cdv A outer s H E).env (FX P w G base N x st f cdv A outer s H E).xe := passes_of rfl

/-! ### small premises -/
def visB (sc : Scope) (x : Str) : Bool := match sc.names.lookup x with
  | some .local | some .cell | some .free => true
  | _ => false
theorem visB_ok {sc : Scope} {x : Str} (h : visB sc x = true) : Vis sc x := by
  unfold visB at h
  split at h
  · exact .inl (by assumption)
  · exact .inr (.inl (by assumption))
  · exact .inr (.inr (by assumption))
  · cases h
def locB (sc : Scope) (x : Str) : Bool := match sc.names.lookup x with
  | some .local | some .cell => true
  | _ => false
theorem locB_ok {sc : Scope} {x : Str} (h : locB sc x = true) : Loc sc x := by
  unfold locB at h
  split at h
  · exact .inl (by assumption)
  · exact .inr (by assumption)
  · cases h
def fnB (X : Cx) (x : Str) : Bool := X.fn x || (match X.env.scope.names.lookup x with | some .local => true | _ => false)
theorem fnB_ok {X : Cx} {x : Str} (h : fnB X x = true) : X.fn x = true ∨ X.env.scope.names.lookup x = some .local := by
  unfold fnB at h
  simp only [Bool.or_eq_true] at h
  rcases h with h | h
  · exact .inl h
  · split at h
    · exact .inr (by assumption)
    · cases h
theorem ne_of_b {x : Str} (h : (x == ("__name__" : Str)) = false) : x ≠ "__name__" := fun e => by rw [e] at h; exact absurd h (by decide)
section
variable {G : Gr} {X : Cx} {W : WX} {a b c e : Expr} {es rest : List Expr} {pos p p2 : Pos} {x : Str} {fa fb fc : F} {g g' : D → D → F} {fl : FG (List D)} {ta tb tc : FG Bool}
/-! ### expressions -/
theorem xv (i : Nat) (hN : X.N[i]? = some x := by kernel_rfl) (hv : visB X.env.scope x = true := by kernel_rfl) (hd : (x == ("__debug__" : Str)) = false := by kernel_rfl) (hcd : (x == ("__classdict__" : Str)) = false := by kernel_rfl) :
    PE X (.Name x pos) (tE G W (varF i)) := e_var hN (visB_ok hv) hd hcd
theorem xi {i : Int} {j} : PE X (.Constant (.int i) j pos) (tE G W (int! i)) := e_const pe_int fun _ _ => .int _
theorem xs {y : Str} {j} : PE X (.Constant (.str y) j pos) (tE G W (str! y)) := e_const pe_str fun _ _ => .str _
theorem xn {j} : PE X (.Constant .none j pos) (tE G W non!) := e_const pe_non fun _ _ => .non
theorem xb {b : Bool} {j} : PE X (.Constant (.bool b) j pos) (tE G W (bl! b)) := e_const pe_bl fun _ _ => .bl _
theorem xneg (h : PE X a (tE G W fa)) : PE X (.UnaryOp .USub a pos) (tE G W (negE fa)) := e_neg h
/-- a module's number -/
theorem xg {i : Int} (hm : ∃ t, G.mg x = some (.int i t)) (hM : X.mg = G.mg := by rfl) (hg : Gl X x := by unfold Gl; kernel_rfl) (hd : (x == ("__debug__" : Str)) = false := by kernel_rfl) : PE X (.Name x pos) (tE G W (int! i)) :=
  let ⟨_, h⟩ := hm
  e_glob hg (by rw [hM]; exact h) hd
theorem xstr {z : Str} (hm : ∃ t, G.mg x = some (.str z t)) (hM : X.mg = G.mg := by rfl) (hg : Gl X x := by unfold Gl; kernel_rfl) (hd : (x == ("__debug__" : Str)) = false := by kernel_rfl) : PE X (.Name x pos) (tE G W (str! z)) :=
  let ⟨t, h⟩ := hm
  e_const (v := .str z) (pe_glob hg (by rw [hM]; exact h) ⟨t, rfl⟩ hd) fun _ _ => .str _
/-- a built-in class as a value -/
theorem xty {T : String} (hm : G.mg x = none) (hM : X.mg = G.mg := by rfl) (hg : Gl X x := by unfold Gl; kernel_rfl) (hv : bootBuiltins x = some (.type T) := by kernel_rfl) (hn : (x == ("__name__" : Str)) = false := by kernel_rfl) (hd : (x == ("__debug__" : Str)) = false := by kernel_rfl) :
    PE X (.Name x pos) (tE G W (ty! T)) := e_const (v := .ty T) (pe_bltn hg (by rw [hM]; exact hm) hv rfl (ne_of_b hn) hd) fun _ _ => .ty _
theorem xbin {op : Operator} (ho : OpF G X (binaryOp op) g) (ha : PE X a (tE G W fa)) (hb : PE X b (tE G W fb)) : PE X (.BinOp a op b pos) (tE G W (binE g fa fb)) := e_bin ho ha hb
theorem xcmp {op : CmpOp} (ho : OpF G X (compareOp op) g) (ha : PE X a (tE G W fa)) (hb : PE X b (tE G W fb)) (hm : behindInMarks op b = false := by kernel_rfl) : PE X (.Compare a [op] [b] pos) (tE G W (binE g fa fb)) := e_cmp ho ha hb hm
theorem xch {op op' : CmpOp} (ho : OpF G X (compareOp op) g) (ho' : OpF G X (compareOp op') g') (ha : PE X a (tE G W fa)) (hb : PE X b (tE G W fb)) (hc : PE X c (tE G W fc)) (hm : lastMarks [op, op'] [b, c] = false := by kernel_rfl) :
    PE X (.Compare a [op, op'] [b, c] pos) (tE G W (chF g g' fa fb fc)) := e_chain ho ho' ha hb hc hm
theorem xix (ha : PE X a (tE G W fa)) (hb : PE X b (tE G W fb)) (hK : X.K = G.K := by rfl) (hs : PlainIx b := by unfold PlainIx; intros; kernel_rfl) : PE X (.Subscript a b pos) (tE G W (idxE fa fb)) := e_idx hK ha hb hs
theorem xsl {lo hi : Option Expr} {ol oh : FG (Option Int)} (mu : Bool) (ha : PE X a (tE G W fa)) (hl : PO X lo (tO G W ol)) (hh : PO X hi (tO G W oh)) (hK : X.K = G.K := by rfl) : PE X (.Subscript a (.Slice lo hi none p2) pos) (tE G W (slcE mu fa ol oh)) := e_slc hK mu ha hl hh
theorem on : PO X none (tO G W noF) := o_none
theorem os (h : PE X e (tE G W fa)) : PO X (some e) (tO G W (someI fa)) := o_some h
theorem xnil : PA X [] (tA G W nilF) := a_nil
theorem xcons (ha : PE X e (tE G W fa)) (hr : PA X es (tA G W fl)) (hs : starEach (e :: es) X.env = (false, eval e X.env) :: starEach es X.env := by kernel_rfl) : PA X (e :: es) (tA G W (consF fa fl)) := a_cons ha hr hs
theorem xtup {x1} (h : PA X es (tA G W fl)) : PE X (.Tuple es x1 pos) (tE G W (tupE fl)) := e_tup h
theorem xlst (mu : Bool) (h : PA X es (tA G W fl)) : PE X (.List es pos) (tE G W (lstE mu fl)) := e_lst mu h
theorem xfn {ps : List Str} {k j : Nat} {c : Ct} (h : Has X.prog X.w G X.base x ps j c) (hc : Ct.sized c ps.length) (hr : Room k X.A) (hj : j ≤ k) (tk : Takes X W) (ha : PA X (e :: es) (tA G W fl)) (hK : X.K = G.K := by rfl) (hM : X.mg = G.mg := by rfl) (hg : Gl X x := by unfold Gl; kernel_rfl)
    (hd : (x == ("__debug__" : Str)) = false := by kernel_rfl) (he : starEach (e :: es) X.env = (false, eval e X.env) :: starEach es X.env := by kernel_rfl) (hpl : (backTo pos (starEach es X.env)).any (·.1) = false := by kernel_rfl) :
    PE X (.Call (.Name x p) (e :: es) [] pos) (tE G W (callE c fl)) := e_fn h hK hM hc (hr.mono hj) hg tk ha hd he hpl
theorem xfn0 {ps : List Str} {k j : Nat} {c : Ct} (h : Has X.prog X.w G X.base x ps j c) (hc : Ct.sized c ps.length) (hr : Room k X.A) (hj : j ≤ k) (tk : Takes X W) (hK : X.K = G.K := by rfl) (hM : X.mg = G.mg := by rfl) (hg : Gl X x := by unfold Gl; kernel_rfl)
    (hd : (x == ("__debug__" : Str)) = false := by kernel_rfl) : PE X (.Call (.Name x p) [] [] pos) (tE G W (callC c [])) := e_fn0 h hK hM hc (hr.mono hj) hg tk hd
theorem xcB {id : String} {gb : List D → F} (hc : BF G X (.builtin id) gb) (hm : G.mg x = none) (ha : PA X (e :: es) (tA G W fl)) (hM : X.mg = G.mg := by rfl) (hg : Gl X x := by unfold Gl; kernel_rfl) (hv : bootBuiltins x = some (.builtin id) := by kernel_rfl) (hn : (x == ("__name__" : Str)) = false := by kernel_rfl)
    (hd : (x == ("__debug__" : Str)) = false := by kernel_rfl) (he : starEach (e :: es) X.env = (false, eval e X.env) :: starEach es X.env := by kernel_rfl) (hpl : (backTo pos (starEach es X.env)).any (·.1) = false := by kernel_rfl) :
    PE X (.Call (.Name x p) (e :: es) [] pos) (tE G W (biE gb fl)) := e_callB hc hg (by rw [hM]; exact hm) hv ha (ne_of_b hn) hd he hpl
theorem xcT {T : String} {gb : List D → F} (hc : BF G X (.type T) gb) (hm : G.mg x = none) (ha : PA X (e :: es) (tA G W fl)) (hM : X.mg = G.mg := by rfl) (hg : Gl X x := by unfold Gl; kernel_rfl) (hv : bootBuiltins x = some (.type T) := by kernel_rfl) (hn : (x == ("__name__" : Str)) = false := by kernel_rfl)
    (hd : (x == ("__debug__" : Str)) = false := by kernel_rfl) (he : starEach (e :: es) X.env = (false, eval e X.env) :: starEach es X.env := by kernel_rfl) (hpl : (backTo pos (starEach es X.env)).any (·.1) = false := by kernel_rfl) :
    PE X (.Call (.Name x p) (e :: es) [] pos) (tE G W (biE gb fl)) := e_callTy hc hg (by rw [hM]; exact hm) hv ha (ne_of_b hn) hd he hpl
theorem xcF {id : String} {gb : List D → F} (hc : BF G X (.builtin id) gb) (hm : G.mg x = some (.builtin id)) (ha : PA X (e :: es) (tA G W fl)) (hM : X.mg = G.mg := by rfl) (hg : Gl X x := by unfold Gl; kernel_rfl)
    (hd : (x == ("__debug__" : Str)) = false := by kernel_rfl) (he : starEach (e :: es) X.env = (false, eval e X.env) :: starEach es X.env := by kernel_rfl) (hpl : (backTo pos (starEach es X.env)).any (·.1) = false := by kernel_rfl) :
    PE X (.Call (.Name x p) (e :: es) [] pos) (tE G W (biE gb fl)) := e_callBfun hc hg (by rw [hM]; exact hm) ha hd he hpl
theorem xand (ha : PE X a (tE G W fa)) (hb : PE X (.BoolOp .And (b :: rest) pos) (tE G W fb)) (hK : X.K = G.K := by rfl) : PE X (.BoolOp .And (a :: b :: rest) pos) (tE G W (andV fa fb)) := e_andV hK ha hb
theorem xor' (ha : PE X a (tE G W fa)) (hb : PE X (.BoolOp .Or (b :: rest) pos) (tE G W fb)) (hK : X.K = G.K := by rfl) : PE X (.BoolOp .Or (a :: b :: rest) pos) (tE G W (orV fa fb)) := e_orV hK ha hb
theorem xone {op} (h : PE X a (tE G W fa)) : PE X (.BoolOp op [a] pos) (tE G W fa) := pe_one h
theorem xnot (ha : PE X a (tE G W fa)) (hK : X.K = G.K := by rfl) : PE X (.UnaryOp .Not a pos) (tE G W (notV fa)) := e_notV hK ha
theorem xife (hc : PT X c (tT G W tc)) (ha : PE X a (tE G W fa)) (hb : PE X b (tE G W fb)) : PE X (.IfExp c a b pos) (tE G W (iteV tc fa fb)) := e_ife hc ha hb
/-! ### tests -/
theorem tt (ha : PE X a (tE G W fa)) (hK : X.K = G.K := by rfl) (he : ∀ whole, isTrue a X.env whole = (do let v ← whole; standAt a.pos; holding [v] (truthy v)) := by intros; kernel_rfl) : PT X a (tT G W (truT fa)) := t_truth hK ha he
def BlG (g : D → D → F) : Prop := ∀ x y τ S Q E, g x y τ S Q E → g x y τ S (fun d S' => ∃ b, d = .bl b ∧ Q d S') E
theorem tcmp {op : CmpOp} (ho : OpF G X (compareOp op) g) (hg : BlG g) (ha : PE X a (tE G W fa)) (hb : PE X b (tE G W fb)) (hm : behindInMarks op b = false := by kernel_rfl) : PT X (.Compare a [op] [b] pos) (tT G W (cmpT g fa fb)) := t_cmp ho hg ha hb hm
theorem tch {op op' : CmpOp} (ho : OpF G X (compareOp op) g) (ho' : OpF G X (compareOp op') g') (hg' : BlG g') (ha : PE X a (tE G W fa)) (hb : PE X b (tE G W fb)) (hc : PE X c (tE G W fc)) (hm : lastMarks [op, op'] [b, c] = false := by kernel_rfl) :
    PT X (.Compare a [op, op'] [b, c] pos) (tT G W (chT g g' fa fb fc)) := t_chain ho ho' hg' ha hb hc hm
theorem tnot (ha : PT X a (tT G W ta)) : PT X (.UnaryOp .Not a pos) (tT G W (notF ta)) := t_not ha
theorem wa1 (ha : PT X a (tT G W ta)) : PW X (.BoolOp .And [a] pos) (tT G W ta) := w_one_and ha
theorem wo1 (ha : PT X a (tT G W ta)) : PW X (.BoolOp .Or [a] pos) (tT G W ta) := w_one_or ha
theorem wa (ha : PT X a (tT G W ta)) (hb : PW X (.BoolOp .And (b :: rest) pos) (tT G W tb)) : PW X (.BoolOp .And (a :: b :: rest) pos) (tT G W (andF ta tb)) := w_and ha hb
theorem wo (ha : PT X a (tT G W ta)) (hb : PW X (.BoolOp .Or (b :: rest) pos) (tT G W tb)) : PW X (.BoolOp .Or (a :: b :: rest) pos) (tT G W (orF ta tb)) := w_or ha hb
end

/-! ### operators -/
theorem optF_bl {o : Store → Option D} {τ : Env} {S : Store} {Q : D → Store → Prop} {E : QX} (h : ∀ d, o S = some d → ∃ b, d = .bl b) (q : optF o τ S Q E) : optF o τ S (fun d S' => ∃ b, d = .bl b ∧ Q d S') E := by
  unfold optF at q ⊢
  cases e : o S with
  | none => rw [e] at q; exact q.elim
  | some d =>
    rw [e] at q
    obtain ⟨b, rfl⟩ := h _ e
    exact ⟨b, rfl, q⟩
theorem bl_opt {o : D → D → Store → Option D} (h : ∀ x y S d, o x y S = some d → ∃ b, d = .bl b) : BlG fun x y => optF (o x y) := fun x y τ S Q E q => optF_bl (h x y S) q
theorem bl_o2I {C : Int → Int → Bool} {f : Int → Int → Bool} : BlG fun x y => optF (o2I C (fun i j => .bl (f i j)) x y) := bl_opt fun x y S d h => by
  unfold o2I at h
  split at h
  · split at h
    · cases h; exact ⟨_, rfl⟩
    · cases h
  · cases h
theorem bl_lt : BlG ltG := bl_o2I
theorem bl_le : BlG leG := bl_o2I
theorem bl_gt : BlG gtG := bl_o2I
theorem bl_ge : BlG geG := bl_o2I
theorem bl_eq : BlG eqG := bl_opt fun x y S d h => by unfold eqO at h; split at h <;> cases h; exact ⟨_, rfl⟩
theorem bl_ne : BlG neG := bl_opt fun x y S d h => by unfold neO at h; split at h <;> cases h; exact ⟨_, rfl⟩
theorem isO_bl {neg : Bool} (x y : D) (S : Store) (d : D) (h : isO neg x y S = some d) : ∃ b, d = .bl b := by
  unfold isO at h
  split at h <;> first | (cases h; exact ⟨_, rfl⟩) | (split at h <;> cases h; exact ⟨_, rfl⟩) | cases h
theorem inO_bl {neg : Bool} (x y : D) (S : Store) (d : D) (h : inO neg x y S = some d) : ∃ b, d = .bl b := by
  unfold inO at h
  split at h
  · split at h
    · cases h; exact ⟨_, rfl⟩
    · cases h
  · cases h
theorem bl_is : BlG isG := bl_opt isO_bl
theorem bl_isn : BlG isnG := bl_opt isO_bl
theorem bl_in : BlG inG := bl_opt inO_bl
theorem bl_nin : BlG ninG := bl_opt inO_bl
theorem Room.u64 {k : Nat} {A : Around} (r : Room k A) : A.units + 64 < cLine := by have := r.un; omega
theorem Room.u65 {k : Nat} {A : Around} (r : Room k A) : A.units + 65 < cLine := by have := r.un; omega
section
variable {G : Gr} {X : Cx}
theorem ofdiv : OpF G X (binaryOp .FloorDiv) fdivG := opd_fdiv
theorem omod : OpF G X (binaryOp .Mod) modG := opd_mod
theorem opow : OpF G X (binaryOp .Pow) powG := opd_pow
theorem oshl : OpF G X (binaryOp .LShift) shlG := opd_shl
theorem oshr : OpF G X (binaryOp .RShift) shrG := opd_shr
theorem olt : OpF G X (compareOp .Lt) ltG := opd_lt
theorem ole : OpF G X (compareOp .LtE) leG := opd_le
theorem ogt : OpF G X (compareOp .Gt) gtG := opd_gt
theorem oge : OpF G X (compareOp .GtE) geG := opd_ge
theorem oeq {k : Nat} (hr : Room k X.A) (hK : X.K = G.K := by rfl) : OpF G X (compareOp .Eq) eqG := opd_eq hK (Room.u64 hr)
theorem one' {k : Nat} (hr : Room k X.A) (hK : X.K = G.K := by rfl) : OpF G X (compareOp .NotEq) neG := opd_ne hK (Room.u64 hr)
theorem ois : OpF G X (compareOp .Is) isG := opd_is
theorem oisn : OpF G X (compareOp .IsNot) isnG := opd_isnot
theorem oin {k : Nat} (hr : Room k X.A) (hK : X.K = G.K := by rfl) : OpF G X (compareOp .In) inG := opd_in hK (Room.u65 hr)
theorem onin {k : Nat} (hr : Room k X.A) (hK : X.K = G.K := by rfl) : OpF G X (compareOp .NotIn) ninG := opd_notIn hK (Room.u65 hr)
theorem oadd (mu : Bool) (hK : X.K = G.K := by rfl) : OpF G X (binaryOp .Add) (addF mu) := opf_add hK mu
theorem osub : OpF G X (binaryOp .Sub) subF := opf_sub
theorem omul (mu : Bool) (hK : X.K = G.K := by rfl) : OpF G X (binaryOp .Mult) (mulF mu) := opf_mul hK mu
end
section
variable {G : Gr} {X : Cx} {W : WX} {e tg it elt : Expr} {ifs : List Expr} {pos p p2 pos' : Pos} {x : Str} {fe : F} {fl : FG (List D)} {t : Tg} {f : FS}
/-! ### statements -/
theorem sset (i : Nat) (nd : X.N.Nodup) (he : PE X e (tE G W fe)) (hi : X.N[i]? = some x := by kernel_rfl) (hx : locB X.env.scope x = true := by kernel_rfl) (hs : swapsWith e (some (.Name x pos')) pos.line X.env = pure false := by kernel_rfl) (hf : fnB X x = true := by kernel_rfl) :
    PS X (.Assign [.Name x pos'] e pos) (tS G W (setS i fe)) := s_set nd hi (locB_ok hx) he hs (fnB_ok hf)
theorem sexpr (he : PE X e (tE G W fe)) (hs : swapsWith e none pos.line X.env = pure false := by kernel_rfl) : PS X (.Expr e pos) (tS G W (exprS fe)) := s_expr he hs
theorem gname (i : Nat) (nd : X.N.Nodup) (hi : X.N[i]? = some x := by kernel_rfl) (hx : locB X.env.scope x = true := by kernel_rfl) (hf : fnB X x = true := by kernel_rfl) : GOk G X (.Name x pos) (.name i) := g_name nd hi (locB_ok hx) (fnB_ok hf)
theorem gcons {es : List Expr} {ts : List Tg} (h1 : GOk G X e t) (h2 : GsOk G X es ts) (hs : (assignEach (e :: es) X.env).map (·.2) = assign e X.env :: (assignEach es X.env).map (·.2) := by kernel_rfl) : GsOk G X (e :: es) (t :: ts) := gs_cons h1 h2 hs
theorem gtup {es : List Expr} {kk : Nat} {ts : List Tg} {n : Nat} (h : GsOk G X es ts) (hK : X.K = G.K := by rfl) (hc : X.calm = true := by rfl) (hl : ts.length = n := by rfl) (hn : (assignEach es X.env).length = n := by kernel_rfl) (hst : (assignEach es X.env).findIdx? (·.1) = none := by kernel_rfl) :
    GOk G X (.Tuple es kk pos) (.tup ts) := g_tup hK hc h hl hn hst
theorem sasg (he : PE X e (tE G W fe)) (hg : GOk G X tg t) (hs : swapsWithSole [tg] e pos.line X.env = pure false := by kernel_rfl) (hw : swappedStores [tg] e X.env = pure none := by kernel_rfl) (h1 : (assignEach [tg] X.env).map (·.2) = [assign tg X.env] := by kernel_rfl) :
    PS X (.Assign [tg] e pos) (tS G W (asgS t fe)) := s_asg he hg hs hw h1
theorem sub' {o i : Expr} {fo fi : F} {sp : Pos} (he : PE X e (tE G W fe)) (ho : PE X o (tE G W fo)) (hi : PE X i (tE G W fi))
    (ha : ∀ v, assign (.Subscript o i sp) X.env v = (do
      let ov ← holding [v] (eval o X.env)
      let iv ← holding [v, ov] (eval i X.env)
      standAt sp
      holding [v, ov, iv] (setItem ov iv v)
      release [v, ov, iv] []) := by intros; kernel_rfl)
    (hs : swapsWithSole [.Subscript o i sp] e pos.line X.env = pure false := by kernel_rfl) (hw : swappedStores [.Subscript o i sp] e X.env = pure none := by kernel_rfl) (h1 : (assignEach [.Subscript o i sp] X.env).map (·.2) = [assign (.Subscript o i sp) X.env] := by kernel_rfl) :
    PS X (.Assign [.Subscript o i sp] e pos) (tS G W (subS fe fo fi)) := s_sub he ho hi ha hs hw h1
theorem sfor {body : List Stmt} {fi : FG Its'} (hp : PassesOwn (model X.prog X.w) X.A X.env X.xe) (hi : PI X tg it (tI G W fi)) (hg : GOk G X tg t) (hb : PSs X body (tS G W f)) (hc : X.calm = true := by rfl) (hs : ∀ x, foldedSetIterable it X.env x = pure x := by intros; kernel_rfl) :
    PS X (.For tg it body [] pos) (tS G W (forS fi t f)) := s_for hp hc hi hg hb hs
theorem spar {x y : Str} {a b : Expr} {px py pt : Pos} {kt k2 pt2} (i j : Nat) (nd : X.N.Nodup) (ha : PA X [a, b] (tA G W fl)) (hc : X.calm = true := by rfl) (hi : X.N[i]? = some x := by kernel_rfl) (hj : X.N[j]? = some y := by kernel_rfl) (hij : i ≠ j := by decide)
    (hx : X.env.scope.names.lookup x = some .local := by kernel_rfl) (hy : X.env.scope.names.lookup y = some .local := by kernel_rfl)
    (hw : swappedStores [.Tuple [.Name x px, .Name y py] kt pt] (.Tuple [a, b] k2 pt2) X.env = pure (some [x, y]) := by kernel_rfl)
    (hs : swapsWithSole [.Tuple [.Name x px, .Name y py] kt pt] (.Tuple [a, b] k2 pt2) pos.line X.env = pure false := by kernel_rfl) :
    PS X (.Assign [.Tuple [.Name x px, .Name y py] kt pt] (.Tuple [a, b] k2 pt2) pos) (tS G W (parS i j fl)) := s_par hc nd hi hj hij hx hy ha hw hs
/-- an exception's class of the module -/
structure ExcK (G : Gr) (x : Str) : Prop where
  ex : ∃ C, G.mg x = some (.ref C) ∧ PySem.W.excIn G.K C He.veBase "ValueError.__new__" = true ∧ PySem.W.keepIn G.K (.ref C) = true ∧ PySem.W.subIn G.K (.ref C) (.type "BaseException") = some true ∧ PySem.W.typeIn G.K (.ref C) = some (.type "type")
theorem sraise {m : Str} {j : Nat} {p pos2 : Pos} (T : ExcK G x) (tk : Takes X W) (hK : X.K = G.K := by rfl) (hM : X.mg = G.mg := by rfl) (hc : X.calm = true := by rfl) (hg : Gl X x := by unfold Gl; kernel_rfl) (hd : (x == ("__debug__" : Str)) = false := by kernel_rfl) :
    PS X (.Raise (some (.Call (.Name x p) [.Constant (.str m) j p2] [] pos)) none pos2) (tS G W (raiseS x)) := by
  obtain ⟨C, h1, h2, h3, h4, h5⟩ := T.ex
  exact s_raise hM hc tk PySem.F.excBase_ValueError (by rw [hK]; exact h2) (by rw [hM]; exact h1) (by rw [hK]; exact h3) (raises_own (by rw [hK]; exact h4) (by rw [hK]; exact h5)) hg hd
end
/-! ### walked things, comprehensions -/
section
variable {G : Gr} {X : Cx} {W : WX} {tg e a b c : Expr} {es : List Expr} {pos p : Pos} {fe fa fb : F} {fl : FG (List D)}
theorem ival (he : PE X e (tE G W fe)) (hK : X.K = G.K := by rfl) : PI X tg e (tI G W (itE fe)) := i_val hK he
theorem irng1 (hm : G.mg "range" = none) (ha : PA X [a] (tA G W fl)) (hM : X.mg = G.mg := by rfl) (hg : Gl X "range" := by unfold Gl; kernel_rfl) (hs : starEach [a] X.env = [(false, eval a X.env)] := by kernel_rfl) : PI X tg (.Call (.Name "range" p) [a] [] pos) (tI G W (bindF fl rng1)) := i_rng1 hg (by rw [hM]; exact hm) ha hs
theorem irng2 (hm : G.mg "range" = none) (ha : PA X [a, b] (tA G W fl)) (hM : X.mg = G.mg := by rfl) (hg : Gl X "range" := by unfold Gl; kernel_rfl) (hs : starEach [a, b] X.env = [(false, eval a X.env), (false, eval b X.env)] := by kernel_rfl) (hs2 : starEach [b] X.env = [(false, eval b X.env)] := by kernel_rfl) :
    PI X tg (.Call (.Name "range" p) [a, b] [] pos) (tI G W (bindF fl rng2)) := i_rng2 hg (by rw [hM]; exact hm) ha hs hs2
theorem irng3 (hm : G.mg "range" = none) (ha : PA X [a, b, c] (tA G W fl)) (hM : X.mg = G.mg := by rfl) (hg : Gl X "range" := by unfold Gl; kernel_rfl) (hs : starEach [a, b, c] X.env = (false, eval a X.env) :: starEach [b, c] X.env := by kernel_rfl) (hpl : (backTo pos (starEach [b, c] X.env)).any (·.1) = false := by kernel_rfl) :
    PI X tg (.Call (.Name "range" p) [a, b, c] [] pos) (tI G W (bindF fl rng3)) := i_rng3 hg (by rw [hM]; exact hm) ha hs hpl
end
/-- the contexts of a comprehension's block -/
abbrev BI := Shared × Hp × Addr × List (Str × Addr) × List Addr
abbrev BX (X : Cx) (scope : Scope) (i : BI) : Cx := X.blk i.1 i.2.1 scope (compEnvC scope i.2.2.2.1 i.2.2.1 X.env) i.2.2.2.2
def GOkF (G : Gr) (XF : BI → Cx) (target : Expr) (t : Tg) : Prop :=
  ∃ g : TG, (∀ i, PG (XF i) target g) ∧ ∀ (m : Mp) (S : Store) (H : Hp) (σ : L2.St) (τ τ' : Env) (v : V) (d : D) (Q : L2.St → Hp → Prop), SR G m S H → EnvR G m H σ τ → Rep G m H v d → bindT t d τ = some τ' → (∀ σ', EnvR G m H σ' τ' → SameBut (slotsT t) σ σ' → Q σ' H) → g v σ H Q
def GsOkF (G : Gr) (XF : BI → Cx) (es : List Expr) (ts : List Tg) : Prop :=
  ∃ g : TGs, (∀ i, PGs (XF i) es g) ∧ ∀ (m : Mp) (S : Store) (H : Hp) (σ : L2.St) (τ τ' : Env) (vs : List V) (ds : List D) (Q : L2.St → Hp → Prop), SR G m S H → EnvR G m H σ τ → RepAll G m H vs ds → bindTs ts ds τ = some τ' → (∀ σ', EnvR G m H σ' τ' → SameBut (slotsTs ts) σ σ' → Q σ' H) → g vs σ H Q
section
variable {G : Gr} {XF : BI → Cx} {pos : Pos}
theorem gnameF {x : Str} (i : Nat) (nd : ∀ b, (XF b).N.Nodup) (hi : ∀ b, (XF b).N[i]? = some x := by intro; kernel_rfl) (hx : ∀ b, locB (XF b).env.scope x = true := by intro; kernel_rfl) (hf : ∀ b, fnB (XF b) x = true := by intro; kernel_rfl) : GOkF G XF (.Name x pos) (.name i) :=
  ⟨gName i, fun b => pg_name (nd b) (hi b) (locB_ok (hx b)) (fnB_ok (hf b)), fun m S H σ τ τ' v d Q sr er r h k => by
    simp only [bindT] at h
    cases h
    exact k _ (er.set r i) ⟨by simp, fun j hj => List.getElem?_set_ne (fun e => hj (by simp [slotsT, e]))⟩⟩
theorem gnilF : GsOkF G XF [] [] :=
  ⟨gNil, fun _ => pgs_nil, fun m S H σ τ τ' vs ds Q sr er r h k => by
    cases r with
    | nil => simp only [bindTs] at h; cases h; exact ⟨rfl, k σ er ⟨rfl, fun _ _ => rfl⟩⟩
    | cons a r => simp only [bindTs] at h; cases h⟩
theorem gconsF {e : Expr} {es : List Expr} {t : Tg} {ts : List Tg} (h1 : GOkF G XF e t) (h2 : GsOkF G XF es ts) (hs : ∀ b, (assignEach (e :: es) (XF b).env).map (·.2) = assign e (XF b).env :: (assignEach es (XF b).env).map (·.2) := by intro; kernel_rfl) : GsOkF G XF (e :: es) (t :: ts) := by
  obtain ⟨g1, p1, k1⟩ := h1
  obtain ⟨g2, p2, k2⟩ := h2
  refine ⟨gCons g1 g2, fun b => pgs_cons (p1 b) (p2 b) (hs b), fun m S H σ τ τ' vs ds Q sr er r h k => ?_⟩
  cases r with
  | nil => simp only [bindTs] at h; cases h
  | cons a r =>
    simp only [bindTs] at h
    obtain ⟨τ1, h3, h4⟩ := Option.bind_eq_some_iff.mp h
    exact ⟨_, _, rfl, k1 m S H σ τ τ1 _ _ _ sr er a h3 fun σ1 er1 s1 => k2 m S H σ1 τ1 τ' _ _ Q sr er1 r h4 fun σ2 er2 s2 => k σ2 er2 (s1.trans s2)⟩
theorem gtupF {es : List Expr} {kk : Nat} {ts : List Tg} {n : Nat} (h : GsOkF G XF es ts) (hK : ∀ b, (XF b).K = G.K := by intro; rfl) (hc : ∀ b, (XF b).calm = true := by intro; rfl) (hl : ts.length = n := by rfl) (hn : ∀ b, (assignEach es (XF b).env).length = n := by intro; kernel_rfl)
    (hst : ∀ b, (assignEach es (XF b).env).findIdx? (·.1) = none := by intro; kernel_rfl) : GOkF G XF (.Tuple es kk pos) (.tup ts) := by
  obtain ⟨g, p, k⟩ := h
  refine ⟨gTup G.K n g, fun b => by rw [← hK b]; exact pg_tup (hc b) (p b) (hn b) (hst b), fun m S H σ τ τ' v d Q sr er r h kk => ?_⟩
  cases d with
  | tup ds =>
    simp only [bindT] at h
    obtain ⟨a, xs, rfl, t1, ra⟩ := r.getT rfl
    refine ⟨a, xs, rfl, t1, ?_, k m S H σ τ τ' xs ds Q sr er ra h fun σ' e s => kk σ' e (by simpa [slotsT] using s)⟩
    rw [ra.length, ← bindTs_len ts ds τ τ' h, hl]
  | _ => simp [bindT] at h
end
section
variable {G : Gr} {X : Cx} {W : WX} {elt tg iter : Expr} {ifs : List Expr} {scope : Scope} {pos pos' spos : Pos} {t : Tg} {ft : FG Bool} {fe : F} {fi : FG Its'}
theorem blkE (hg : GOkF G (BX X scope) tg t) (hts : ∀ b, PTs (BX X scope b) ifs (tT G W0 ft)) (hel : ∀ b, PE (BX X scope b) elt (tE G W0 fe)) : BlkE G X tg elt ifs scope t ft fe := by
  obtain ⟨g, p, k⟩ := hg
  exact ⟨⟨g, fun s H C cl fp => p (s, H, C, cl, fp), k⟩, fun s H C cl fp => hts (s, H, C, cl, fp), fun s H C cl fp => hel (s, H, C, cl, fp)⟩
theorem xlc (mu : Bool) (own : List (Str × Nat)) (nd : X.N.Nodup) (hi : PI X tg iter (tI G W fi)) (hg : GOkF G (BX X scope) tg t) (hts : ∀ b, PTs (BX X scope b) ifs (tT G W0 ft)) (hel : ∀ b, PE (BX X scope b) elt (tE G W0 fe)) (hc : X.calm = true := by rfl)
    (ok : blkC X.N X.env.scope scope own = true := by kernel_rfl) (hs : ∀ x, foldedSetIterable iter X.env x = pure x := by intros; kernel_rfl) (hvs : ∀ i ∈ slotsT t, i ∈ own.map (·.2) := by decide) :
    PE X (.ListComp elt [⟨tg, iter, ifs, 0⟩] scope pos) (tE G W (compF mu fi t ft fe (own.map (·.2)))) := e_lc hc nd hi (blkOk_by ok) (blkE hg hts hel) hs hvs
theorem ssetlc {y : Str} {py : Pos} (i : Nat) (mu : Bool) (own : List (Str × Nat)) (nd : X.N.Nodup) (hi : PI X tg iter (tI G W fi)) (hg : GOkF G (BX X scope) tg t) (hts : ∀ b, PTs (BX X scope b) ifs (tT G W0 ft)) (hel : ∀ b, PE (BX X scope b) elt (tE G W0 fe)) (hc : X.calm = true := by rfl)
    (hy : X.N[i]? = some y := by kernel_rfl) (hyl : X.env.scope.names.lookup y = some .local := by kernel_rfl) (hsw : swapsWith (.ListComp elt [⟨tg, iter, ifs, 0⟩] scope pos) (some (.Name y py)) spos.line X.env = pure true := by kernel_rfl)
    (ok : blkC X.N X.env.scope scope own = true := by kernel_rfl) (hs : ∀ x, foldedSetIterable iter X.env x = pure x := by intros; kernel_rfl) (hvs : ∀ i ∈ slotsT t, i ∈ own.map (·.2) := by decide) :
    PS X (.Assign [.Name y py] (.ListComp elt [⟨tg, iter, ifs, 0⟩] scope pos) spos) (tS G W (setS i (compF mu fi t ft fe (own.map (·.2))))) := s_setLc hc nd hy hyl hsw hi (blkOk_by ok) (blkE hg hts hel) hs hvs
end

/-! ### x(lambda: e), x a def that tells an error's word -/
def hdl (K : PySem.W.Frag) (hs : List (Str × Str)) : List (Value × Str) := hs.map fun q => (.ref (He.ga K q.1), q.2)
structure Teller (G : Gr) (x : Str) (st : Stmt) (word : Str → Option Str) (hs : List (Str × Str)) : Prop where
  gx : G.mg x = some (.ref (He.ga G.K x))
  fn : ∃ fd, FunD G.K x x (defArgs st) (defBody st) (defScope st) [] [] (He.ga G.K x) fd
  word : WordOk G (hdl G.K hs) word
  cls : ∀ q ∈ hs, G.mg q.1 = some (.ref (He.ga G.K q.1))
section
variable {G : Gr} {X : Cx} {W : WX} {x a dflt : Str} {c P : Addr} {k : Nat} {st : Stmt} {Ng : List Str} {params : Arguments} {body : Expr} {scope : Scope} {fb : F} {p lpos pos : Pos} {hs : List (Str × Str)} {word : Str → Option Str}
theorem xlam (T : Teller G x st word hs) (Sg : FnScope Ng [a] (defScope st)) (hG : ∀ cdv : Value, LamX.GivesTo X Ng x (defScope st) (He.ga G.K x) cdv (defBody st) a (X.env.qual ++ "<lambda>") (TTm X.K (hdl G.K hs) dflt))
    (TB : LamX.TabB X.base X.mg c P) (hmT : (P, X.env.qual ++ "<lambda>") ∈ G.T) (hu : ∀ p ∈ G.T, p.1 = P → p.2 = X.env.qual ++ "<lambda>") (hr : Room k X.A) (h2 : 2 ≤ k)
    (hbody : ∀ (A : Around) (outer : List PySem.Env) (s : Shared) (H : Hp) (E : XK) (f c' : Addr), Room (k - 2) (LamX.lamCx X A outer s H E scope f c').A → PE (LamX.lamCx X A outer s H E scope f c') body (tE G (WEx E) fb))
    (hK : X.K = G.K := by rfl) (hM : X.mg = G.mg := by rfl) (hg : Gl X x := by unfold Gl; kernel_rfl) (hNg : Ng[0]? = some a := by kernel_rfl) (hva : visB (defScope st) a = true := by kernel_rfl)
    (hbg : ∀ (kV doc pm : Value) (an : Option Addr) (cdv ct : Value) (us : List Value), us.length = ([a] : List Str).length → bindArgs (PySem.W.fnOf x x (defArgs st) (defBody st) (defScope st) Value.none kV doc pm an cdv ct) { pos := us } = pure (([a] : List Str).zip us) := by intro kV doc pm an cdv ct us hl; exact match us, hl with | [_], _ => by kernel_rfl)
    (hcode : X.env.code = .ref c := by rfl) (hL : LamX.lamSB X.env.scope scope = true := by kernel_rfl) (hdef : defaultsOf params X.env = ([], []) := by kernel_rfl)
    (hbind : ∀ (q : Str) (cl : List (Str × Addr)) (pm cv ctv : Value), bindArgs (PySem.W.kla_fn "<lambda>" q params body scope cl pm cv ctv) ⟨[], []⟩ = pure [] := by intros; kernel_rfl)
    (hdb : (x == ("__debug__" : Str)) = false := by kernel_rfl) (hd : (a == ("__debug__" : Str)) = false := by kernel_rfl) (hcd : (a == ("__classdict__" : Str)) = false := by kernel_rfl) :
    PE X (.Call (.Name x p) [.Lambda params body scope lpos] [] pos) (tE G W (lamF word dflt fb)) := by
  obtain ⟨fd, D⟩ := T.fn
  rw [← hK] at D
  exact e_lam (k := k - 2) hK hM hg (by rw [hM, hK]; exact T.gx) D Sg hNg (visB_ok hva) hbg (fun cdv => by rw [hK]; exact hK ▸ hG cdv) T.word TB hcode hmT hu (hr.mono (by omega)) (LamX.lamS_by hL) hdef hbind (fun A outer s H E f c' hr' => hbody A outer s H E f c' hr') hdb hd hcd
end
theorem tkL {X : Cx} {A : Around} {outer : List PySem.Env} {s : Shared} {H : Hp} {E : XK} {scope : Scope} {f c' : Addr} : Takes (LamX.lamCx X A outer s H E scope f c') (WEx E) := takes_of rfl rfl rfl rfl
end Dx

set_option Elab.async false
set_option linter.all false
set_option maxRecDepth 100000
set_option maxHeartbeats 4000000
/-! DX, part 13: plain values; loops and comprehensions by what a turn does. -/
namespace Dx
open PySem PySem.Spec PyProof.Rows L2

mutual
/-- values of moderate size: numbers below 2^4000, at most l items -/
def okD (l : Nat) : D → Bool
  | .int i => decide (i.natAbs < 2 ^ 4000)
  | .non | .bl _ => true
  | .str x => PyData.canLay0 (.str x)
  | .tup ds | .lst ds => decide (ds.length ≤ l) && okDs l ds
  | _ => false
def okDs (l : Nat) : List D → Bool
  | [] => true
  | d :: ds => okD l d && okDs l ds
end
theorem okDs_iff {l : Nat} : ∀ {ds : List D}, okDs l ds = true ↔ ∀ d ∈ ds, okD l d = true
  | [] => by simp [okDs]
  | d :: ds => by simp [okDs, okDs_iff (ds := ds)]
theorem okD_tup {l : Nat} {ds : List D} : okD l (.tup ds) = true ↔ ds.length ≤ l ∧ ∀ d ∈ ds, okD l d = true := by simp [okD, okDs_iff]
theorem okD_lst {l : Nat} {ds : List D} : okD l (.lst ds) = true ↔ ds.length ≤ l ∧ ∀ d ∈ ds, okD l d = true := by simp [okD, okDs_iff]
theorem okD_int {l : Nat} {i : Int} : okD l (.int i) = true ↔ i.natAbs < 2 ^ 4000 := by simp [okD]
mutual
theorem okD_dat {l : Nat} : ∀ {d : D}, okD l d = true → datD d = true
  | .int i, h => rfl
  | .non, h => rfl
  | .bl _, h => rfl
  | .str x, h => by simpa [okD, datD] using h
  | .tup ds, h => by
    have h : (decide (ds.length ≤ l) && okDs l ds) = true := by simpa [okD] using h
    simp only [Bool.and_eq_true] at h
    have := okDs_dat h.2
    simpa [datD] using this
  | .lst ds, h => by
    have h : (decide (ds.length ≤ l) && okDs l ds) = true := by simpa [okD] using h
    simp only [Bool.and_eq_true] at h
    have := okDs_dat h.2
    simpa [datD] using this
  | .obj _, h => by simp [okD] at h
  | .ty _, h => by simp [okD] at h
  | .gl _, h => by simp [okD] at h
  | .exv _, h => by simp [okD] at h
theorem okDs_dat {l : Nat} : ∀ {ds : List D}, okDs l ds = true → datDs ds = true
  | [], h => rfl
  | d :: ds, h => by
    have h : (okD l d && okDs l ds) = true := by simpa [okDs] using h
    simp only [Bool.and_eq_true] at h
    have h1 := okD_dat h.1
    have h2 := okDs_dat h.2
    simp [datDs, h1, h2]
end
mutual
theorem okD_mono {l l' : Nat} (hl : l ≤ l') : ∀ {d : D}, okD l d = true → okD l' d = true
  | .int i, h => by simpa [okD] using h
  | .non, h => rfl
  | .bl _, h => rfl
  | .str x, h => by simpa [okD] using h
  | .tup ds, h => by
    have h : (decide (ds.length ≤ l) && okDs l ds) = true := by simpa [okD] using h
    simp only [Bool.and_eq_true, decide_eq_true_eq] at h
    have := okDs_mono hl h.2
    simp only [okD, this, Bool.and_true, decide_eq_true_eq]; omega
  | .lst ds, h => by
    have h : (decide (ds.length ≤ l) && okDs l ds) = true := by simpa [okD] using h
    simp only [Bool.and_eq_true, decide_eq_true_eq] at h
    have := okDs_mono hl h.2
    simp only [okD, this, Bool.and_true, decide_eq_true_eq]; omega
  | .obj _, h => by simp [okD] at h
  | .ty _, h => by simp [okD] at h
  | .gl _, h => by simp [okD] at h
  | .exv _, h => by simp [okD] at h
theorem okDs_mono {l l' : Nat} (hl : l ≤ l') : ∀ {ds : List D}, okDs l ds = true → okDs l' ds = true
  | [], h => rfl
  | d :: ds, h => by
    have h : (okD l d && okDs l ds) = true := by simpa [okDs] using h
    simp only [Bool.and_eq_true] at h
    have h1 := okD_mono hl h.1
    have h2 := okDs_mono hl h.2
    simp [okDs, h1, h2]
end
theorem okD_get {l : Nat} {d : D} (S : Store) (h : okD l d = true) : getS S d = d := by
  cases d <;> first | rfl | simp [okD] at h
theorem dat_get {d : D} (S : Store) (h : datD d = true) : getS S d = d := by
  cases d <;> first | rfl | simp [datD] at h
theorem depDs_le {n : Nat} : ∀ {ds : List D}, depDs ds ≤ n ↔ ∀ d ∈ ds, depD d ≤ n
  | [] => by simp [depDs]
  | d :: ds => by simp [depDs, depDs_le (ds := ds), Nat.max_le]
theorem depD_tup {n : Nat} {ds : List D} : depD (.tup ds) ≤ n + 1 ↔ ∀ d ∈ ds, depD d ≤ n := by simp [depD, depDs_le]
theorem depD_lst {n : Nat} {ds : List D} : depD (.lst ds) ≤ n + 1 ↔ ∀ d ∈ ds, depD d ≤ n := by simp [depD, depDs_le]
theorem depD_mem {n : Nat} {ds : List D} {d : D} (h : depD (.tup ds) ≤ n) (hd : d ∈ ds) : depD d + 1 ≤ n := by
  cases n with
  | zero => simp [depD] at h
  | succ n => have := depD_tup.mp h d hd; omega
theorem eqO_of {x y : D} {S : Store} (hx : datD x = true) (hy : datD y = true) (dx : depD x ≤ 64) (dy : depD y ≤ 64) : eqO x y S = some (.bl (eqD x y)) := by
  unfold eqO cmpOk
  rw [dat_get S hx, dat_get S hy, hx, hy, decide_eq_true dx, decide_eq_true dy]
  rfl
theorem neO_of {x y : D} {S : Store} (hx : datD x = true) (hy : datD y = true) (dx : depD x ≤ 64) (dy : depD y ≤ 64) : neO x y S = some (.bl (!eqD x y)) := by
  unfold neO cmpOk
  rw [dat_get S hx, dat_get S hy, hx, hy, decide_eq_true dx, decide_eq_true dy]
  rfl
/-- == of two values -/
theorem eqG_of {x y : D} {τ : Env} {S : Store} {Q : D → Store → Prop} {E : QX} (hx : datD x = true) (hy : datD y = true) (dx : depD x ≤ 64) (dy : depD y ≤ 64) (q : Q (.bl (eqD x y)) S) : eqG x y τ S Q E := by
  unfold eqG optF
  rw [eqO_of hx hy dx dy]
  exact q
theorem neG_of {x y : D} {τ : Env} {S : Store} {Q : D → Store → Prop} {E : QX} (hx : datD x = true) (hy : datD y = true) (dx : depD x ≤ 64) (dy : depD y ≤ 64) (q : Q (.bl (!eqD x y)) S) : neG x y τ S Q E := by
  unfold neG optF
  rw [neO_of hx hy dx dy]
  exact q

/-! ### the cup: a list of the store with two numbers -/
def Cup (n : Nat) (S : Store) : Prop := ∃ a b : Int, S[n]? = some (.lst [.int a, .int b])
/-- the cup may be another, all else is as it was -/
structure CupR (n : Nat) (S S' : Store) : Prop where
  cup : Cup n S'
  len : S'.length = S.length
  same : ∀ i, i ≠ n → S'[i]? = S[i]?
theorem CupR.refl {n : Nat} {S : Store} (h : Cup n S) : CupR n S S := ⟨h, rfl, fun _ _ => rfl⟩
theorem CupR.trans {n : Nat} {S S1 S2 : Store} (a : CupR n S S1) (b : CupR n S1 S2) : CupR n S S2 := ⟨b.cup, b.len.trans a.len, fun i h => (b.same i h).trans (a.same i h)⟩
theorem CupR.set {n : Nat} {S : Store} {a b : Int} (h : Cup n S) : CupR n S (S.set n (.lst [.int a, .int b])) := by
  obtain ⟨a', b', h⟩ := h
  have hl : n < S.length := (List.getElem?_eq_some_iff.mp h).1
  exact ⟨⟨a, b, by rw [List.getElem?_set_self hl]⟩, by simp, fun i hi => List.getElem?_set_ne (fun e => hi e.symm)⟩

/-! ### loops -/
theorem forL_inv {t : Tg} {body : FS} {chk : Store → Prop} {E : DEnds} (I : Nat → Env → Store → Prop) : ∀ (ds : List D) (i : Nat) {τ : Env} {S : Store}, I i τ S →
    (∀ (j : Nat) (d : D), ds[j]? = some d → ∀ (τ : Env) (S : Store) (K : Env → Store → Prop), I (i + j) τ S → (∀ τ' S', I (i + j + 1) τ' S' → K τ' S') → chk S ∧ ∃ τ', bindT t d τ = some τ' ∧ body { E with nx := K, ct := K, bk := E.nx } τ' S) →
    (∀ τ S, I (i + ds.length) τ S → chk S ∧ E.nx τ S) → forL t body chk ds E τ S
  | [], i, τ, S, h0, _, he => he τ S (by simpa using h0)
  | d :: ds, i, τ, S, h0, ht, he => by
    obtain ⟨h1, τ', h2, h3⟩ := ht 0 d rfl τ S (fun τ'' S'' => forL t body chk ds E τ'' S'') (by simpa using h0) (fun τ' S' h => forL_inv I ds (i + 1) (by simpa using h)
      (fun j d hj τ S K hI hK => ht (j + 1) d (by simpa using hj) τ S K (by rw [show i + (j + 1) = i + 1 + j by omega]; exact hI) (fun τ' S' h => hK τ' S' (by rw [show i + 1 + j + 1 = i + (j + 1) + 1 by omega]; exact h)))
      (fun τ S h => he τ S (by rw [show i + (d :: ds).length = i + 1 + ds.length by simp; omega]; exact h)))
    unfold forL
    refine ⟨h1, ?_⟩
    rw [h2]
    exact h3
/-- a comprehension whose turns change nothing -/
theorem compL_pure {t : Tg} {ft : FG Bool} {fe : F} {chk : Store → Prop} {τ : Env} {S : Store} (p : D → Bool) (f : D → D) : ∀ (ds acc : List D) {Q : List D → Store → Prop},
    (∀ d ∈ ds, ∃ τ', bindT t d τ = some τ' ∧ (∀ Q : Bool → Store → Prop, Q (p d) S → ft τ' S Q noX) ∧ (p d = true → ∀ Q : D → Store → Prop, Q (f d) S → fe τ' S Q noX)) →
    chk S → acc.length + ds.length ≤ sizeLine → Q (acc ++ (ds.filter p).map f) S → compL t ft fe chk τ ds acc S Q
  | [], acc, Q, _, hc, _, hq => by
    unfold compL
    exact ⟨hc, by simpa using hq⟩
  | d :: ds, acc, Q, h, hc, hl, hq => by
    obtain ⟨τ', h1, h2, h3⟩ := h d List.mem_cons_self
    unfold compL
    refine ⟨hc, ?_⟩
    rw [h1]
    simp only [List.length_cons] at hl
    refine h2 _ ?_
    by_cases hp : p d = true
    · rw [if_pos hp]
      refine h3 hp _ ⟨by omega, compL_pure p f ds (acc ++ [f d]) (fun d hd => h d (List.mem_cons_of_mem _ hd)) hc (by simp; omega) ?_⟩
      have e : List.filter p (d :: ds) = d :: List.filter p ds := by simp [hp]
      rw [e] at hq
      simpa using hq
    · rw [if_neg hp]
      refine compL_pure p f ds acc (fun d hd => h d (List.mem_cons_of_mem _ hd)) hc (by omega) ?_
      have e : List.filter p (d :: ds) = List.filter p ds := by simp [hp]
      rw [e] at hq
      exact hq
/-- a comprehension over a value -/
theorem compF_val {fi : FG Its'} {t : Tg} {ft : FG Bool} {fe : F} {vs : List Nat} {τ : Env} {S : Store} {Q : D → Store → Prop} {E : QX} (ds : List D) (chk : Store → Prop) (p : D → Bool) (f : D → D)
    (hi : ∀ (Q : Its' → Store → Prop), Q (ds, chk) S → fi τ S Q E) (hc : chk S) (hl : ds.length ≤ sizeLine)
    (h : ∀ d ∈ ds, ∃ τ', bindT t d (wipeE τ vs) = some τ' ∧ (∀ Q : Bool → Store → Prop, Q (p d) S → ft τ' S Q noX) ∧ (p d = true → ∀ Q : D → Store → Prop, Q (f d) S → fe τ' S Q noX))
    (hq : Q (.lst ((ds.filter p).map f)) S) : compF false fi t ft fe vs τ S Q E := by
  unfold compF
  refine hi _ (compL_pure p f ds [] h hc (by simpa using hl) ?_)
  unfold newL
  rw [if_neg Bool.false_ne_true]
  simpa using hq
theorem eqG_ii {a b : Int} {τ : Env} {S : Store} {Q : D → Store → Prop} {E : QX} : eqG (.int a) (.int b) τ S Q E = Q (.bl (decide (a = b))) S := by
  unfold eqG optF
  rw [eqO_of rfl rfl (by simp [depD]) (by simp [depD])]
  simp only [eqD]
  congr 2
theorem neG_ii {a b : Int} {τ : Env} {S : Store} {Q : D → Store → Prop} {E : QX} : neG (.int a) (.int b) τ S Q E = Q (.bl (!decide (a = b))) S := by
  unfold neG optF
  rw [neO_of rfl rfl (by simp [depD]) (by simp [depD])]
  simp only [eqD]
  congr 3
theorem neG_bb {a b : Bool} {τ : Env} {S : Store} {Q : D → Store → Prop} {E : QX} : neG (.bl a) (.bl b) τ S Q E = Q (.bl (!(a == b))) S := by
  unfold neG optF
  rw [neO_of rfl rfl (by simp [depD]) (by simp [depD])]
  simp only [eqD]
end Dx

set_option Elab.async false
set_option linter.all false
set_option maxRecDepth 100000
set_option maxHeartbeats 4000000
/-! DX, part 12b: a list's append; the module's tuples. -/
namespace Dx
open PySem PySem.Spec PyProof.Rows L2
def appF (o y : D) : F := fun _ S Q _ => match o with
  | .obj n => (match S[n]? with
    | some (.lst ds) => ds.length < sizeLine ∧ Q .non (S.set n (.lst (ds ++ [y])))
    | _ => False)
  | _ => False
def isLo (o : D) : FG Unit := fun _ S Q _ => match o with
  | .obj n => (match S[n]? with
    | some (.lst _) => Q () S
    | _ => False)
  | _ => False
abbrev appE (fo fy : F) : F := bindF fo fun o => bindF (isLo o) fun _ => bindF fy fun y => appF o y
section
variable {G : Gr} {X : Cx} {W : WX} {o e : Expr} {apos cpos : Pos} {fo fy : F}
theorem xapp (ho : PE X o (tE G W fo)) (ha : PE X e (tE G W fy)) (hbase : attributeBase o "append" X.env (eval o X.env) = eval o X.env := by kernel_rfl)
    (hfew : ((backTo cpos (starEach (e :: []) X.env)).all (fun x => !x.1) && (backToKw cpos (keywordEach [] X.env)).all (fun x => x.1.isSome) && decide ((e :: []).length + ([] : List Keyword).length + (if ([] : List Keyword).isEmpty then 0 else 1) < 30)) = true := by kernel_rfl)
    (hline : (apos.endLine == cpos.line) = true := by kernel_rfl) (hs : starEach (e :: []) X.env = (false, eval e X.env) :: starEach [] X.env := by kernel_rfl) (hplain : (backTo cpos (starEach [] X.env)).any (·.1) = false := by kernel_rfl) :
    PE X (.Call (.Attribute o "append" apos) [e] [] cpos) (tE G W (appE fo fy)) := by
  have ha2 : PA X [e] (tA G W (consF fy nilF)) := a_cons ha a_nil hs
  refine PE.imp (pe_bm PySem.F.plainAttrs_list PySem.F.slot_list_append PySem.F.type_list_append mt_append ho ha2 hbase hfew hline hs hplain) fun σ H Q ⟨τ, m, S, h⟩ => ?_
  refine ⟨τ, m, S, h.seq fun m1 S1 H1 v d e1 sr1 r1 h1 => ?_⟩
  obtain ⟨QD, QE, sr, er, hf, k, px⟩ := h1
  unfold bindF isLo at hf
  split at hf
  · rename_i n
    split at hf
    · rename_i ds hs
      obtain ⟨a, xs, rfl, hm, hH, rx⟩ := live_of sr r1 hs
      refine ⟨.inl ⟨rfl, xs, .inl (.inl hH)⟩, τ, m1, S1, fun ds' S' => (match ds' with | [y] => appF (.obj n) y τ S' QD QE | _ => False), QE, sr, er, hf, fun m2 S2 H2 vs ds' e2 sr2 r2 q2 => ?_, px⟩
      cases r2 with
      | nil => exact q2.elim
      | cons rv rr =>
        rename_i v vs y ys
        cases rr with
        | cons _ _ => exact q2.elim
        | nil =>
          have q2 : appF (.obj n) y τ S2 QD QE := q2
          cases hS : S2[n]? with
          | none => simp [appF, hS] at q2
          | some ob =>
            cases ob with
            | lst ds2 =>
              simp only [appF, hS] at q2
              obtain ⟨a2, xs2, ea, hm2, hH2, rx2⟩ := live_of sr2 (r1.mono sr1 e2) hS
              cases ea
              exact ⟨a, xs2, v, rfl, rfl, hH2, by rw [rx2.length]; exact q2.1, k m2 _ _ .non .non (e2.trans (Ext.write sr2 hm2)) (sr2.write hm2 (rx2.append (.cons rv .nil))) .non q2.2⟩
            | dead => simp [appF, hS] at q2
            | dct _ => simp [appF, hS] at q2
    · exact hf.elim
  · exact hf.elim
end

/-- a tuple of the module -/
abbrev tup! (ds : List D) : F := retF (.tup ds)
def flatV : D → Option V
  | .int i => some (.int i)
  | .str x => some (.str x)
  | .bl b => some (.bl b)
  | .non => some .non
  | _ => none
def FlatAll : List D → List V → Prop
  | [], [] => True
  | d :: ds, v :: vs => flatV d = some v ∧ FlatAll ds vs
  | _, _ => False
theorem flat_rep {G : Gr} {m : Mp} {H : Hp} : ∀ {ds : List D} {vs : List V}, FlatAll ds vs → RepAll G m H vs ds
  | [], [], _ => .nil
  | [], _ :: _, h => h.elim
  | _ :: _, [], h => h.elim
  | d :: ds, v :: vs, ⟨h1, h2⟩ => .cons (by cases d <;> simp [flatV] at h1 <;> subst h1 <;> constructor) (flat_rep h2)
structure TupK (G : Gr) (x : Str) (ds : List D) : Prop where
  ex : ∃ (a : Addr) (vs : List V), G.mg x = some (.ref a) ∧ (∀ H : Hp, SqT G.K H a vs) ∧ FlatAll ds vs
theorem xtupK {G : Gr} {X : Cx} {W : WX} {x : Str} {pos : Pos} {ds : List D} (T : TupK G x ds) (hM : X.mg = G.mg := by rfl) (hg : Gl X x := by unfold Gl; kernel_rfl) (hd : (x == ("__debug__" : Str)) = false := by kernel_rfl) : PE X (.Name x pos) (tE G W (tup! ds)) := by
  obtain ⟨a, vs, h1, h2, h3⟩ := T.ex
  exact e_const (v := .ref a) (pe_glob hg (by rw [hM]; exact h1) rfl hd) fun m H => .tup (h2 H) (flat_rep h3)
end Dx

set_option Elab.async false
set_option linter.all false
set_option maxRecDepth 100000
set_option maxHeartbeats 0
namespace LawX
open PySem PySem.Spec PyProof.Rows L2 Dx
def top (i : Nat) : Stmt := PySem.Challenge.pw_nearplain_k02_whole_trees_and_their_node.main.body.getD i (.Pass ⟨0, 0, 0, 0⟩)

abbrev st_law_cup : Stmt := top 43
abbrev N_law_cup : List Str := ["script", "cell"]
abbrev P_law_cup : List Str := ["script"]
theorem sc_law_cup : FnScope N_law_cup P_law_cup (defScope st_law_cup) := ⟨by kernel_rfl, by kernel_rfl, by kernel_rfl, by decide +kernel, by kernel_rfl, by decide +kernel, by decide +kernel⟩
def fs_law_cup : FS :=
  (seqS (setS 1 (biE absB (consF (idxE (binE (addF false) (biE (lstB false) (consF (varF 0) nilF)) (lstE false (consF (int! 0) nilF))) (int! 0)) nilF)))
    (retS (lstE true (consF (iteV (cmpT geG (varF 1) (binE powG (int! 10) (int! 18))) (binE fdivG (varF 1) (int! 83)) (int! 0)) (consF (binE (addF false) (binE modG (biE intB (consF (binE (addF false) (binE (mulF false) (varF 1) (int! 307)) (int! 2707)) nilF)) (int! 2077503121)) (int! 181)) nilF)))))
theorem body_law_cup {P : Program} {w : World} {G : Gr} {base : Heap} {f : Addr} {cdv : Value} {A : Around} {outer : List PySem.Env} {s : Shared} {H : Hp} {E : XK} {k  : Nat}  (b_list : G.mg "list" = none) (b_abs : G.mg "abs" = none) (b_int : G.mg "int" = none)  
    (hr : Room k (FX P w G base N_law_cup "_law_cup" st_law_cup f (cdv) A outer s H E).A) : PSs (FX P w G base N_law_cup "_law_cup" st_law_cup f (cdv) A outer s H E) (defBody st_law_cup) (tS G (WEx E) (fs_law_cup )) := by
  exact (ss_cons (sset 1 sc_law_cup.nd (xcB bf_abs b_abs (xcons (xix (xbin (oadd false) (xcT (bf_lst rfl false) b_list (xcons (xv 0) xnil)) (xlst false (xcons xi xnil))) xi) xnil)))
    (ss_one (s_ret (xlst true (xcons (xife (tcmp oge bl_ge (xv 1) (xbin opow xi xi)) (xbin ofdiv (xv 1) xi) xi) (xcons (xbin (oadd false) (xbin omod (xcT bf_int b_int (xcons (xbin (oadd false) (xbin (omul false) (xv 1) xi) xi) xnil)) xi) xi) xnil))))))
abbrev st_law_roll : Stmt := top 44
abbrev N_law_roll : List Str := ["cup", "many", "found", "deep"]
abbrev P_law_roll : List Str := ["cup", "many"]
theorem sc_law_roll : FnScope N_law_roll P_law_roll (defScope st_law_roll) := ⟨by kernel_rfl, by kernel_rfl, by kernel_rfl, by decide +kernel, by kernel_rfl, by decide +kernel, by decide +kernel⟩
def fs_law_roll : FS :=
  (seqS (ifS (cmpT gtG (idxE (varF 0) (int! 0)) (int! 0)) (seqS (setS 2 (binE modG (biE intB (consF (idxE (varF 0) (int! 0)) nilF)) (varF 1)))
    (seqS (subS (binE fdivG (idxE (varF 0) (int! 0)) (varF 1)) (varF 0) (int! 0))
    (retS (varF 2)))) nilS)
    (seqS (subS (binE modG (biE intB (consF (binE (addF false) (binE (mulF false) (idxE (varF 0) (int! 1)) (int! 31081)) (int! 8039)) nilF)) (int! 2147483543)) (varF 0) (int! 1))
    (seqS (setS 3 (binE modG (biE intB (consF (binE (mulF false) (idxE (varF 0) (int! 1)) (binE (addF false) (idxE (varF 0) (int! 1)) (int! 251))) nilF)) (int! 2147483587)))
    (retS (binE modG (biE intB (consF (binE fdivG (varF 3) (int! 839)) nilF)) (varF 1))))))
theorem body_law_roll {P : Program} {w : World} {G : Gr} {base : Heap} {f : Addr} {cdv : Value} {A : Around} {outer : List PySem.Env} {s : Shared} {H : Hp} {E : XK} {k  : Nat}  (b_int : G.mg "int" = none)  
    (hr : Room k (FX P w G base N_law_roll "_law_roll" st_law_roll f (cdv) A outer s H E).A) : PSs (FX P w G base N_law_roll "_law_roll" st_law_roll f (cdv) A outer s H E) (defBody st_law_roll) (tS G (WEx E) (fs_law_roll )) := by
  exact (ss_cons (s_if (tcmp ogt bl_gt (xix (xv 0) xi) xi) (ss_cons (sset 2 sc_law_roll.nd (xbin omod (xcT bf_int b_int (xcons (xix (xv 0) xi) xnil)) (xv 1)))
    (ss_cons (sub' (xbin ofdiv (xix (xv 0) xi) (xv 1)) (xv 0) xi)
    (ss_one (s_ret (xv 2))))) ss_nil)
    (ss_cons (sub' (xbin omod (xcT bf_int b_int (xcons (xbin (oadd false) (xbin (omul false) (xix (xv 0) xi) xi) xi) xnil)) xi) (xv 0) xi)
    (ss_cons (sset 3 sc_law_roll.nd (xbin omod (xcT bf_int b_int (xcons (xbin (omul false) (xix (xv 0) xi) (xbin (oadd false) (xix (xv 0) xi) xi)) xnil)) xi))
    (ss_one (s_ret (xbin omod (xcT bf_int b_int (xcons (xbin ofdiv (xv 3) xi) xnil)) (xv 1)))))))
abbrev st_law_some : Stmt := top 45
abbrev N_law_some : List Str := ["cup", "things"]
abbrev P_law_some : List Str := ["cup", "things"]
theorem sc_law_some : FnScope N_law_some P_law_some (defScope st_law_some) := ⟨by kernel_rfl, by kernel_rfl, by kernel_rfl, by decide +kernel, by kernel_rfl, by decide +kernel, by decide +kernel⟩
def fs_law_some (c_law_roll : Ct) : FS :=
  (retS (idxE (varF 1) (callE c_law_roll (consF (varF 0) (consF (biE lenB (consF (varF 1) nilF)) nilF)))))
theorem body_law_some {P : Program} {w : World} {G : Gr} {base : Heap} {f : Addr} {cdv : Value} {A : Around} {outer : List PySem.Env} {s : Shared} {H : Hp} {E : XK} {k k_law_roll : Nat} {c_law_roll : Ct} (b_len : G.mg "len" = none) (h_law_roll : Has P w G base "_law_roll" P_law_roll k_law_roll c_law_roll) (s_law_roll : Ct.sized c_law_roll P_law_roll.length) (l_law_roll : k_law_roll ≤ k) 
    (hr : Room k (FX P w G base N_law_some "_law_some" st_law_some f (cdv) A outer s H E).A) : PSs (FX P w G base N_law_some "_law_some" st_law_some f (cdv) A outer s H E) (defBody st_law_some) (tS G (WEx E) (fs_law_some c_law_roll)) := by
  exact (ss_one (s_ret (xix (xv 1) (xfn h_law_roll s_law_roll hr (by omega) tkF (xcons (xv 0) (xcons (xcB (bf_len rfl) b_len (xcons (xv 1) xnil)) xnil))))))
abbrev stis_tuple_of : Stmt := top 8
abbrev Nis_tuple_of : List Str := ["value", "low", "high"]
abbrev Pis_tuple_of : List Str := ["value", "low", "high"]
theorem scis_tuple_of : FnScope Nis_tuple_of Pis_tuple_of (defScope stis_tuple_of) := ⟨by kernel_rfl, by kernel_rfl, by kernel_rfl, by decide +kernel, by kernel_rfl, by decide +kernel, by decide +kernel⟩
def fsis_tuple_of : FS :=
  (retS (andV (biE isiB (consF (varF 0) (consF (ty! "tuple") nilF))) (chF leG leG (varF 1) (biE lenB (consF (varF 0) nilF)) (varF 2))))
theorem bodyis_tuple_of {P : Program} {w : World} {G : Gr} {base : Heap} {f : Addr} {cdv : Value} {A : Around} {outer : List PySem.Env} {s : Shared} {H : Hp} {E : XK} {k  : Nat}  (b_tuple : G.mg "tuple" = none) (b_isinstance : G.mg "isinstance" = none) (b_len : G.mg "len" = none)  
    (hr : Room k (FX P w G base Nis_tuple_of "is_tuple_of" stis_tuple_of f (cdv) A outer s H E).A) : PSs (FX P w G base Nis_tuple_of "is_tuple_of" stis_tuple_of f (cdv) A outer s H E) (defBody stis_tuple_of) (tS G (WEx E) (fsis_tuple_of )) := by
  exact (ss_one (s_ret (xand (xcB (bf_isi rfl) b_isinstance (xcons (xv 0) (xcons (xty b_tuple) xnil))) (xone (xch ole ole (xv 1) (xcB (bf_len rfl) b_len (xcons (xv 0) xnil)) (xv 2))))))
abbrev stis_whole : Stmt := top 6
abbrev Nis_whole : List Str := ["value", "low", "high"]
abbrev Pis_whole : List Str := ["value", "low", "high"]
theorem scis_whole : FnScope Nis_whole Pis_whole (defScope stis_whole) := ⟨by kernel_rfl, by kernel_rfl, by kernel_rfl, by decide +kernel, by kernel_rfl, by decide +kernel, by decide +kernel⟩
def fsis_whole : FS :=
  (retS (andV (biE isiB (consF (varF 0) (consF (ty! "int") nilF))) (andV (notV (biE isiB (consF (varF 0) (consF (ty! "bool") nilF)))) (chF leG leG (varF 1) (varF 0) (varF 2)))))
theorem bodyis_whole {P : Program} {w : World} {G : Gr} {base : Heap} {f : Addr} {cdv : Value} {A : Around} {outer : List PySem.Env} {s : Shared} {H : Hp} {E : XK} {k  : Nat}  (b_int : G.mg "int" = none) (b_isinstance : G.mg "isinstance" = none) (b_bool : G.mg "bool" = none)  
    (hr : Room k (FX P w G base Nis_whole "is_whole" stis_whole f (cdv) A outer s H E).A) : PSs (FX P w G base Nis_whole "is_whole" stis_whole f (cdv) A outer s H E) (defBody stis_whole) (tS G (WEx E) (fsis_whole )) := by
  exact (ss_one (s_ret (xand (xcB (bf_isi rfl) b_isinstance (xcons (xv 0) (xcons (xty b_int) xnil))) (xand (xnot (xcB (bf_isi rfl) b_isinstance (xcons (xv 0) (xcons (xty b_bool) xnil)))) (xone (xch ole ole (xv 1) (xv 0) (xv 2)))))))
abbrev stfits_line : Stmt := top 18
abbrev Nfits_line : List Str := ["value", "own"]
abbrev Pfits_line : List Str := ["value"]
theorem scfits_line : FnScope Nfits_line Pfits_line (defScope stfits_line) := ⟨by kernel_rfl, by kernel_rfl, by kernel_rfl, by decide +kernel, by kernel_rfl, by decide +kernel, by decide +kernel⟩
def fsfits_line (cis_tuple_of cis_whole : Ct) : FS :=
  (seqS (ifS (orF (notF (truT (callE cis_tuple_of (consF (varF 0) (consF (int! 0) (consF (binE (addF false) (int! 8) (int! 1)) nilF)))))) (notF (truT (biE allB (consF (compF false (itE (varF 0)) (.name 1) (retF true) (callE cis_whole (consF (varF 1) (consF (negE (int! 1000000)) (consF (int! 1000000) nilF)))) ([("own", 1)].map (·.2))) nilF))))) (retS (bl! false)) nilS)
    (retS (orV (binE eqG (varF 0) (tupE nilF)) (binE neG (idxE (varF 0) (negE (int! 1))) (int! 0)))))
theorem bodyfits_line {P : Program} {w : World} {G : Gr} {base : Heap} {f : Addr} {cdv : Value} {A : Around} {outer : List PySem.Env} {s : Shared} {H : Hp} {E : XK} {k kis_tuple_of kis_whole : Nat} {cis_tuple_of cis_whole : Ct} (n_DEGREE : ∃ t, G.mg "DEGREE" = some (.int 8 t)) (n_COEFFICIENT : ∃ t, G.mg "COEFFICIENT" = some (.int 1000000 t)) (b_all : G.mg "all" = none) (his_tuple_of : Has P w G base "is_tuple_of" Pis_tuple_of kis_tuple_of cis_tuple_of) (sis_tuple_of : Ct.sized cis_tuple_of Pis_tuple_of.length) (lis_tuple_of : kis_tuple_of ≤ k) (his_whole : Has P w G base "is_whole" Pis_whole kis_whole cis_whole) (sis_whole : Ct.sized cis_whole Pis_whole.length) (lis_whole : kis_whole ≤ k) 
    (hr : Room k (FX P w G base Nfits_line "fits_line" stfits_line f (cdv) A outer s H E).A) : PSs (FX P w G base Nfits_line "fits_line" stfits_line f (cdv) A outer s H E) (defBody stfits_line) (tS G (WEx E) (fsfits_line cis_tuple_of cis_whole)) := by
  exact (ss_cons (s_if (PW.pt (wo (tnot (tt (xfn his_tuple_of sis_tuple_of hr (by omega) tkF (xcons (xv 0) (xcons xi (xcons (xbin (oadd false) (xg n_DEGREE) xi) xnil)))))) (wo1 (tnot (tt (xcB (bf_all rfl rfl) b_all (xcons (xlc false [("own", 1)] scfits_line.nd (ival (xv 0)) (gnameF 1 (fun _ => scfits_line.nd)) (fun _ => ts_nil) (fun _ => (xfn his_whole sis_whole hr (by omega) LamX.takes0 (xcons (xv 1) (xcons (xneg (xg n_COEFFICIENT)) (xcons (xg n_COEFFICIENT) xnil)))))) xnil))))))) (ss_one (s_ret xb)) ss_nil)
    (ss_one (s_ret (xor' (xcmp (oeq hr) (xv 0) (xtup xnil)) (xone (xcmp (one' hr) (xix (xv 0) (xneg xi)) xi))))))
abbrev stis_integer : Stmt := top 7
abbrev Nis_integer : List Str := ["value"]
abbrev Pis_integer : List Str := ["value"]
theorem scis_integer : FnScope Nis_integer Pis_integer (defScope stis_integer) := ⟨by kernel_rfl, by kernel_rfl, by kernel_rfl, by decide +kernel, by kernel_rfl, by decide +kernel, by decide +kernel⟩
def fsis_integer : FS :=
  (retS (andV (biE isiB (consF (varF 0) (consF (ty! "int") nilF))) (notV (biE isiB (consF (varF 0) (consF (ty! "bool") nilF))))))
theorem bodyis_integer {P : Program} {w : World} {G : Gr} {base : Heap} {f : Addr} {cdv : Value} {A : Around} {outer : List PySem.Env} {s : Shared} {H : Hp} {E : XK} {k  : Nat}  (b_int : G.mg "int" = none) (b_isinstance : G.mg "isinstance" = none) (b_bool : G.mg "bool" = none)  
    (hr : Room k (FX P w G base Nis_integer "is_integer" stis_integer f (cdv) A outer s H E).A) : PSs (FX P w G base Nis_integer "is_integer" stis_integer f (cdv) A outer s H E) (defBody stis_integer) (tS G (WEx E) (fsis_integer )) := by
  exact (ss_one (s_ret (xand (xcB (bf_isi rfl) b_isinstance (xcons (xv 0) (xcons (xty b_int) xnil))) (xone (xnot (xcB (bf_isi rfl) b_isinstance (xcons (xv 0) (xcons (xty b_bool) xnil))))))))
abbrev stfits_any : Stmt := top 12
abbrev Nfits_any : List Str := ["value"]
abbrev Pfits_any : List Str := ["value"]
theorem scfits_any : FnScope Nfits_any Pfits_any (defScope stfits_any) := ⟨by kernel_rfl, by kernel_rfl, by kernel_rfl, by decide +kernel, by kernel_rfl, by decide +kernel, by decide +kernel⟩
def fsfits_any (cis_tuple_of cis_integer : Ct) : FS :=
  (seqS (ifS (orF (notF (truT (callE cis_tuple_of (consF (varF 0) (consF (int! 2) (consF (int! 2) nilF)))))) (orF (notF (truT (callE cis_integer (consF (idxE (varF 0) (int! 0)) nilF)))) (notF (truT (callE cis_integer (consF (idxE (varF 0) (int! 1)) nilF)))))) (retS (bl! false)) nilS)
    (retS (andV (binE gtG (idxE (varF 0) (int! 1)) (int! 0)) (binE eqG (biE gcdB (consF (idxE (varF 0) (int! 0)) (consF (idxE (varF 0) (int! 1)) nilF))) (int! 1)))))
theorem bodyfits_any {P : Program} {w : World} {G : Gr} {base : Heap} {f : Addr} {cdv : Value} {A : Around} {outer : List PySem.Env} {s : Shared} {H : Hp} {E : XK} {k kis_tuple_of kis_integer : Nat} {cis_tuple_of cis_integer : Ct} (f_gcd : G.mg "gcd" = some (.builtin "math.gcd")) (his_tuple_of : Has P w G base "is_tuple_of" Pis_tuple_of kis_tuple_of cis_tuple_of) (sis_tuple_of : Ct.sized cis_tuple_of Pis_tuple_of.length) (lis_tuple_of : kis_tuple_of ≤ k) (his_integer : Has P w G base "is_integer" Pis_integer kis_integer cis_integer) (sis_integer : Ct.sized cis_integer Pis_integer.length) (lis_integer : kis_integer ≤ k) 
    (hr : Room k (FX P w G base Nfits_any "fits_any" stfits_any f (cdv) A outer s H E).A) : PSs (FX P w G base Nfits_any "fits_any" stfits_any f (cdv) A outer s H E) (defBody stfits_any) (tS G (WEx E) (fsfits_any cis_tuple_of cis_integer)) := by
  exact (ss_cons (s_if (PW.pt (wo (tnot (tt (xfn his_tuple_of sis_tuple_of hr (by omega) tkF (xcons (xv 0) (xcons xi (xcons xi xnil)))))) (wo (tnot (tt (xfn his_integer sis_integer hr (by omega) tkF (xcons (xix (xv 0) xi) xnil)))) (wo1 (tnot (tt (xfn his_integer sis_integer hr (by omega) tkF (xcons (xix (xv 0) xi) xnil)))))))) (ss_one (s_ret xb)) ss_nil)
    (ss_one (s_ret (xand (xcmp ogt (xix (xv 0) xi) xi) (xone (xcmp (oeq hr) (xcF bf_gcd f_gcd (xcons (xix (xv 0) xi) (xcons (xix (xv 0) xi) xnil))) xi))))))
abbrev stfits_fraction : Stmt := top 13
abbrev Nfits_fraction : List Str := ["value"]
abbrev Pfits_fraction : List Str := ["value"]
theorem scfits_fraction : FnScope Nfits_fraction Pfits_fraction (defScope stfits_fraction) := ⟨by kernel_rfl, by kernel_rfl, by kernel_rfl, by decide +kernel, by kernel_rfl, by decide +kernel, by decide +kernel⟩
def fsfits_fraction (cfits_any : Ct) : FS :=
  (retS (andV (callE cfits_any (consF (varF 0) nilF)) (andV (binE leG (biE absB (consF (idxE (varF 0) (int! 0)) nilF)) (int! 1000000000000)) (binE leG (idxE (varF 0) (int! 1)) (int! 1000000000000)))))
theorem bodyfits_fraction {P : Program} {w : World} {G : Gr} {base : Heap} {f : Addr} {cdv : Value} {A : Around} {outer : List PySem.Env} {s : Shared} {H : Hp} {E : XK} {k kfits_any : Nat} {cfits_any : Ct} (b_abs : G.mg "abs" = none) (n_GREATEST : ∃ t, G.mg "GREATEST" = some (.int 1000000000000 t)) (hfits_any : Has P w G base "fits_any" Pfits_any kfits_any cfits_any) (sfits_any : Ct.sized cfits_any Pfits_any.length) (lfits_any : kfits_any ≤ k) 
    (hr : Room k (FX P w G base Nfits_fraction "fits_fraction" stfits_fraction f (cdv) A outer s H E).A) : PSs (FX P w G base Nfits_fraction "fits_fraction" stfits_fraction f (cdv) A outer s H E) (defBody stfits_fraction) (tS G (WEx E) (fsfits_fraction cfits_any)) := by
  exact (ss_one (s_ret (xand (xfn hfits_any sfits_any hr (by omega) tkF (xcons (xv 0) xnil)) (xand (xcmp ole (xcB bf_abs b_abs (xcons (xix (xv 0) xi) xnil)) (xg n_GREATEST)) (xone (xcmp ole (xix (xv 0) xi) (xg n_GREATEST)))))))
abbrev stis_leaf : Stmt := top 29
abbrev Nis_leaf : List Str := ["value", "is_integrand"]
abbrev Pis_leaf : List Str := ["value", "is_integrand"]
theorem scis_leaf : FnScope Nis_leaf Pis_leaf (defScope stis_leaf) := ⟨by kernel_rfl, by kernel_rfl, by kernel_rfl, by decide +kernel, by kernel_rfl, by decide +kernel, by decide +kernel⟩
def fsis_leaf (cfits_fraction cfits_line cis_whole : Ct) : FS :=
  (seqS (ifS (cmpT eqG (idxE (varF 0) (int! 0)) (str! "number")) (retS (andV (binE eqG (biE lenB (consF (varF 0) nilF)) (int! 2)) (callE cfits_fraction (consF (idxE (varF 0) (int! 1)) nilF)))) nilS)
    (seqS (ifS (cmpT inG (idxE (varF 0) (int! 0)) (tupE (consF (str! "pi") (consF (str! "unknown") nilF)))) (retS (andV (binE eqG (biE lenB (consF (varF 0) nilF)) (int! 1)) (orV (binE eqG (idxE (varF 0) (int! 0)) (str! "pi")) (varF 1)))) nilS)
    (seqS (ifS (orF (cmpT neG (idxE (varF 0) (int! 0)) (str! "root")) (cmpT neG (biE lenB (consF (varF 0) nilF)) (int! 3))) (retS (bl! false)) nilS)
    (retS (andV (callE cfits_line (consF (idxE (varF 0) (int! 1)) nilF)) (andV (binE gtG (biE lenB (consF (idxE (varF 0) (int! 1)) nilF)) (int! 1)) (callE cis_whole (consF (idxE (varF 0) (int! 2)) (consF (int! 0) (consF (binE subF (int! 8) (int! 1)) nilF))))))))))
theorem bodyis_leaf {P : Program} {w : World} {G : Gr} {base : Heap} {f : Addr} {cdv : Value} {A : Around} {outer : List PySem.Env} {s : Shared} {H : Hp} {E : XK} {k kfits_fraction kfits_line kis_whole : Nat} {cfits_fraction cfits_line cis_whole : Ct} (b_len : G.mg "len" = none) (n_DEGREE : ∃ t, G.mg "DEGREE" = some (.int 8 t)) (hfits_fraction : Has P w G base "fits_fraction" Pfits_fraction kfits_fraction cfits_fraction) (sfits_fraction : Ct.sized cfits_fraction Pfits_fraction.length) (lfits_fraction : kfits_fraction ≤ k) (hfits_line : Has P w G base "fits_line" Pfits_line kfits_line cfits_line) (sfits_line : Ct.sized cfits_line Pfits_line.length) (lfits_line : kfits_line ≤ k) (his_whole : Has P w G base "is_whole" Pis_whole kis_whole cis_whole) (sis_whole : Ct.sized cis_whole Pis_whole.length) (lis_whole : kis_whole ≤ k) 
    (hr : Room k (FX P w G base Nis_leaf "is_leaf" stis_leaf f (cdv) A outer s H E).A) : PSs (FX P w G base Nis_leaf "is_leaf" stis_leaf f (cdv) A outer s H E) (defBody stis_leaf) (tS G (WEx E) (fsis_leaf cfits_fraction cfits_line cis_whole)) := by
  exact (ss_cons (s_if (tcmp (oeq hr) bl_eq (xix (xv 0) xi) xs) (ss_one (s_ret (xand (xcmp (oeq hr) (xcB (bf_len rfl) b_len (xcons (xv 0) xnil)) xi) (xone (xfn hfits_fraction sfits_fraction hr (by omega) tkF (xcons (xix (xv 0) xi) xnil)))))) ss_nil)
    (ss_cons (s_if (tcmp (oin hr) bl_in (xix (xv 0) xi) (xtup (xcons xs (xcons xs xnil)))) (ss_one (s_ret (xand (xcmp (oeq hr) (xcB (bf_len rfl) b_len (xcons (xv 0) xnil)) xi) (xone (xor' (xcmp (oeq hr) (xix (xv 0) xi) xs) (xone (xv 1))))))) ss_nil)
    (ss_cons (s_if (PW.pt (wo (tcmp (one' hr) bl_ne (xix (xv 0) xi) xs) (wo1 (tcmp (one' hr) bl_ne (xcB (bf_len rfl) b_len (xcons (xv 0) xnil)) xi)))) (ss_one (s_ret xb)) ss_nil)
    (ss_one (s_ret (xand (xfn hfits_line sfits_line hr (by omega) tkF (xcons (xix (xv 0) xi) xnil)) (xand (xcmp ogt (xcB (bf_len rfl) b_len (xcons (xix (xv 0) xi) xnil)) xi) (xone (xfn his_whole sis_whole hr (by omega) tkF (xcons (xix (xv 0) xi) (xcons xi (xcons (xbin osub (xg n_DEGREE) xi) xnil))))))))))))
abbrev stis_less : Stmt := top 14
abbrev Nis_less : List Str := ["one", "other"]
abbrev Pis_less : List Str := ["one", "other"]
theorem scis_less : FnScope Nis_less Pis_less (defScope stis_less) := ⟨by kernel_rfl, by kernel_rfl, by kernel_rfl, by decide +kernel, by kernel_rfl, by decide +kernel, by decide +kernel⟩
def fsis_less : FS :=
  (retS (binE ltG (binE (mulF false) (idxE (varF 0) (int! 0)) (idxE (varF 1) (int! 1))) (binE (mulF false) (idxE (varF 1) (int! 0)) (idxE (varF 0) (int! 1)))))
theorem bodyis_less {P : Program} {w : World} {G : Gr} {base : Heap} {f : Addr} {cdv : Value} {A : Around} {outer : List PySem.Env} {s : Shared} {H : Hp} {E : XK} {k  : Nat}    
    (hr : Room k (FX P w G base Nis_less "is_less" stis_less f (cdv) A outer s H E).A) : PSs (FX P w G base Nis_less "is_less" stis_less f (cdv) A outer s H E) (defBody stis_less) (tS G (WEx E) (fsis_less )) := by
  exact (ss_one (s_ret (xcmp olt (xbin (omul false) (xix (xv 0) xi) (xix (xv 1) xi)) (xbin (omul false) (xix (xv 1) xi) (xix (xv 0) xi)))))
abbrev stmade : Stmt := top 11
abbrev Nmade : List Str := ["over", "under", "common"]
abbrev Pmade : List Str := ["over", "under"]
theorem scmade : FnScope Nmade Pmade (defScope stmade) := ⟨by kernel_rfl, by kernel_rfl, by kernel_rfl, by decide +kernel, by kernel_rfl, by decide +kernel, by decide +kernel⟩
def fsmade : FS :=
  (seqS (setS 2 (biE gcdB (consF (varF 0) (consF (varF 1) nilF))))
    (seqS (setS 2 (iteV (cmpT gtG (varF 1) (int! 0)) (varF 2) (negE (varF 2))))
    (retS (tupE (consF (binE fdivG (varF 0) (varF 2)) (consF (binE fdivG (varF 1) (varF 2)) nilF))))))
theorem bodymade {P : Program} {w : World} {G : Gr} {base : Heap} {f : Addr} {cdv : Value} {A : Around} {outer : List PySem.Env} {s : Shared} {H : Hp} {E : XK} {k  : Nat}  (f_gcd : G.mg "gcd" = some (.builtin "math.gcd"))  
    (hr : Room k (FX P w G base Nmade "made" stmade f (cdv) A outer s H E).A) : PSs (FX P w G base Nmade "made" stmade f (cdv) A outer s H E) (defBody stmade) (tS G (WEx E) (fsmade )) := by
  exact (ss_cons (sset 2 scmade.nd (xcF bf_gcd f_gcd (xcons (xv 0) (xcons (xv 1) xnil))))
    (ss_cons (sset 2 scmade.nd (xife (tcmp ogt bl_gt (xv 1) xi) (xv 2) (xneg (xv 2))))
    (ss_one (s_ret (xtup (xcons (xbin ofdiv (xv 0) (xv 2)) (xcons (xbin ofdiv (xv 1) (xv 2)) xnil)))))))
abbrev stis_end : Stmt := top 28
abbrev Nis_end : List Str := ["value"]
abbrev Pis_end : List Str := ["value"]
theorem scis_end : FnScope Nis_end Pis_end (defScope stis_end) := ⟨by kernel_rfl, by kernel_rfl, by kernel_rfl, by decide +kernel, by kernel_rfl, by decide +kernel, by decide +kernel⟩
def fsis_end (cfits_fraction cis_less cmade : Ct) : FS :=
  (retS (andV (callE cfits_fraction (consF (varF 0) nilF)) (notV (callE cis_less (consF (tup! [.int 8, .int 1]) (consF (callE cmade (consF (biE absB (consF (idxE (varF 0) (int! 0)) nilF)) (consF (idxE (varF 0) (int! 1)) nilF))) nilF))))))
theorem bodyis_end {P : Program} {w : World} {G : Gr} {base : Heap} {f : Addr} {cdv : Value} {A : Around} {outer : List PySem.Env} {s : Shared} {H : Hp} {E : XK} {k kfits_fraction kis_less kmade : Nat} {cfits_fraction cis_less cmade : Ct} (b_abs : G.mg "abs" = none) (t_END : TupK G "END" [.int 8, .int 1]) (hfits_fraction : Has P w G base "fits_fraction" Pfits_fraction kfits_fraction cfits_fraction) (sfits_fraction : Ct.sized cfits_fraction Pfits_fraction.length) (lfits_fraction : kfits_fraction ≤ k) (his_less : Has P w G base "is_less" Pis_less kis_less cis_less) (sis_less : Ct.sized cis_less Pis_less.length) (lis_less : kis_less ≤ k) (hmade : Has P w G base "made" Pmade kmade cmade) (smade : Ct.sized cmade Pmade.length) (lmade : kmade ≤ k) 
    (hr : Room k (FX P w G base Nis_end "is_end" stis_end f (cdv) A outer s H E).A) : PSs (FX P w G base Nis_end "is_end" stis_end f (cdv) A outer s H E) (defBody stis_end) (tS G (WEx E) (fsis_end cfits_fraction cis_less cmade)) := by
  exact (ss_one (s_ret (xand (xfn hfits_fraction sfits_fraction hr (by omega) tkF (xcons (xv 0) xnil)) (xone (xnot (xfn his_less sis_less hr (by omega) tkF (xcons (xtupK t_END) (xcons (xfn hmade smade hr (by omega) tkF (xcons (xcB bf_abs b_abs (xcons (xix (xv 0) xi) xnil)) (xcons (xix (xv 0) xi) xnil))) xnil))))))))
abbrev stleft_of : Stmt := top 30
abbrev Nleft_of : List Str := ["value", "high", "many", "is_integrand", "rest"]
abbrev Pleft_of : List Str := ["value", "high", "many", "is_integrand"]
theorem scleft_of : FnScope Nleft_of Pleft_of (defScope stleft_of) := ⟨by kernel_rfl, by kernel_rfl, by kernel_rfl, by decide +kernel, by kernel_rfl, by decide +kernel, by decide +kernel⟩
def fsleft_of_0 (cis_tuple_of : Ct) : FS :=
  (ifS (orF (cmpT eqG (varF 1) (int! 0)) (orF (cmpT eqG (varF 2) (int! 0)) (orF (notF (truT (callE cis_tuple_of (consF (varF 0) (consF (int! 1) (consF (int! 4) nilF)))))) (notF (truT (biE isiB (consF (idxE (varF 0) (int! 0)) (consF (ty! "str") nilF)))))))) (retS (negE (int! 1))) nilS)
def fsleft_of_1 : FS :=
  (ifS (andF (truT (varF 3)) (cmpT ninG (idxE (varF 0) (int! 0)) (tup! [.str "cos", .str "exp", .str "less", .str "minus", .str "number", .str "pi", .str "plus", .str "power", .str "sin", .str "times", .str "unknown"]))) (retS (negE (int! 1))) nilS)
def fsleft_of_2 (cleft_of : Ct) : FS :=
  (ifS (andF (cmpT inG (idxE (varF 0) (int! 0)) (tup! [.str "abs", .str "atan", .str "cos", .str "exp", .str "log", .str "minus", .str "sin", .str "sqrt"])) (cmpT eqG (biE lenB (consF (varF 0) nilF)) (int! 2))) (retS (callE cleft_of (consF (idxE (varF 0) (int! 1)) (consF (binE subF (varF 1) (int! 1)) (consF (binE subF (varF 2) (int! 1)) (consF (varF 3) nilF)))))) nilS)
def fsleft_of_3 (cis_whole cleft_of : Ct) : FS :=
  (ifS (andF (cmpT eqG (idxE (varF 0) (int! 0)) (str! "power")) (cmpT eqG (biE lenB (consF (varF 0) nilF)) (int! 3))) (retS (iteV (truT (callE cis_whole (consF (idxE (varF 0) (int! 2)) (consF (int! 0) (consF (int! 12) nilF))))) (callE cleft_of (consF (idxE (varF 0) (int! 1)) (consF (binE subF (varF 1) (int! 1)) (consF (binE subF (varF 2) (int! 1)) (consF (varF 3) nilF))))) (negE (int! 1)))) nilS)
def fsleft_of_4 (cleft_of : Ct) : FS :=
  (ifS (andF (cmpT inG (idxE (varF 0) (int! 0)) (tup! [.str "by", .str "least", .str "less", .str "most", .str "plus", .str "times"])) (cmpT eqG (biE lenB (consF (varF 0) nilF)) (int! 3))) (seqS (setS 4 (callE cleft_of (consF (idxE (varF 0) (int! 1)) (consF (binE subF (varF 1) (int! 1)) (consF (binE subF (varF 2) (int! 1)) (consF (varF 3) nilF))))))
    (retS (iteV (cmpT geG (varF 4) (int! 0)) (callE cleft_of (consF (idxE (varF 0) (int! 2)) (consF (binE subF (varF 1) (int! 1)) (consF (varF 4) (consF (varF 3) nilF))))) (negE (int! 1))))) nilS)
def fsleft_of_5 (cis_end cleft_of : Ct) : FS :=
  (ifS (andF (cmpT eqG (idxE (varF 0) (int! 0)) (str! "area")) (cmpT eqG (biE lenB (consF (varF 0) nilF)) (int! 4))) (seqS (ifS (orF (notF (truT (callE cis_end (consF (idxE (varF 0) (int! 2)) nilF)))) (notF (truT (callE cis_end (consF (idxE (varF 0) (int! 3)) nilF))))) (retS (negE (int! 1))) nilS)
    (retS (callE cleft_of (consF (idxE (varF 0) (int! 1)) (consF (binE subF (varF 1) (int! 1)) (consF (binE subF (varF 2) (int! 1)) (consF (bl! true) nilF))))))) nilS)
def fsleft_of (cis_tuple_of cleft_of cis_whole cis_end cis_leaf : Ct) : FS :=
  (seqS (fsleft_of_0 cis_tuple_of)
    (seqS fsleft_of_1
    (seqS (fsleft_of_2 cleft_of)
    (seqS (fsleft_of_3 cis_whole cleft_of)
    (seqS (fsleft_of_4 cleft_of)
    (seqS (fsleft_of_5 cis_end cleft_of)
    (retS (iteV (truT (callE cis_leaf (consF (varF 0) (consF (varF 3) nilF)))) (binE subF (varF 2) (int! 1)) (negE (int! 1))))))))))
theorem bodyleft_of {P : Program} {w : World} {G : Gr} {base : Heap} {f : Addr} {cdv : Value} {A : Around} {outer : List PySem.Env} {s : Shared} {H : Hp} {E : XK} {k kis_tuple_of kleft_of kis_whole kis_end kis_leaf : Nat} {cis_tuple_of cleft_of cis_whole cis_end cis_leaf : Ct} (b_str : G.mg "str" = none) (b_isinstance : G.mg "isinstance" = none) (t_SMOOTH : TupK G "SMOOTH" [.str "cos", .str "exp", .str "less", .str "minus", .str "number", .str "pi", .str "plus", .str "power", .str "sin", .str "times", .str "unknown"]) (t_ONE_PART : TupK G "ONE_PART" [.str "abs", .str "atan", .str "cos", .str "exp", .str "log", .str "minus", .str "sin", .str "sqrt"]) (b_len : G.mg "len" = none) (n_EXPONENT : ∃ t, G.mg "EXPONENT" = some (.int 12 t)) (t_TWO_PARTS : TupK G "TWO_PARTS" [.str "by", .str "least", .str "less", .str "most", .str "plus", .str "times"]) (his_tuple_of : Has P w G base "is_tuple_of" Pis_tuple_of kis_tuple_of cis_tuple_of) (sis_tuple_of : Ct.sized cis_tuple_of Pis_tuple_of.length) (lis_tuple_of : kis_tuple_of ≤ k) (hleft_of : Has P w G base "left_of" Pleft_of kleft_of cleft_of) (sleft_of : Ct.sized cleft_of Pleft_of.length) (lleft_of : kleft_of ≤ k) (his_whole : Has P w G base "is_whole" Pis_whole kis_whole cis_whole) (sis_whole : Ct.sized cis_whole Pis_whole.length) (lis_whole : kis_whole ≤ k) (his_end : Has P w G base "is_end" Pis_end kis_end cis_end) (sis_end : Ct.sized cis_end Pis_end.length) (lis_end : kis_end ≤ k) (his_leaf : Has P w G base "is_leaf" Pis_leaf kis_leaf cis_leaf) (sis_leaf : Ct.sized cis_leaf Pis_leaf.length) (lis_leaf : kis_leaf ≤ k) 
    (hr : Room k (FX P w G base Nleft_of "left_of" stleft_of f (cdv) A outer s H E).A) : PSs (FX P w G base Nleft_of "left_of" stleft_of f (cdv) A outer s H E) (defBody stleft_of) (tS G (WEx E) (fsleft_of cis_tuple_of cleft_of cis_whole cis_end cis_leaf)) := by
  exact (ss_cons (s_if (PW.pt (wo (tcmp (oeq hr) bl_eq (xv 1) xi) (wo (tcmp (oeq hr) bl_eq (xv 2) xi) (wo (tnot (tt (xfn his_tuple_of sis_tuple_of hr (by omega) tkF (xcons (xv 0) (xcons xi (xcons xi xnil)))))) (wo1 (tnot (tt (xcB (bf_isi rfl) b_isinstance (xcons (xix (xv 0) xi) (xcons (xty b_str) xnil)))))))))) (ss_one (s_ret (xneg xi))) ss_nil)
    (ss_cons (s_if (PW.pt (wa (tt (xv 3)) (wa1 (tcmp (onin hr) bl_nin (xix (xv 0) xi) (xtupK t_SMOOTH))))) (ss_one (s_ret (xneg xi))) ss_nil)
    (ss_cons (s_if (PW.pt (wa (tcmp (oin hr) bl_in (xix (xv 0) xi) (xtupK t_ONE_PART)) (wa1 (tcmp (oeq hr) bl_eq (xcB (bf_len rfl) b_len (xcons (xv 0) xnil)) xi)))) (ss_one (s_ret (xfn hleft_of sleft_of hr (by omega) tkF (xcons (xix (xv 0) xi) (xcons (xbin osub (xv 1) xi) (xcons (xbin osub (xv 2) xi) (xcons (xv 3) xnil))))))) ss_nil)
    (ss_cons (s_if (PW.pt (wa (tcmp (oeq hr) bl_eq (xix (xv 0) xi) xs) (wa1 (tcmp (oeq hr) bl_eq (xcB (bf_len rfl) b_len (xcons (xv 0) xnil)) xi)))) (ss_one (s_ret (xife (tt (xfn his_whole sis_whole hr (by omega) tkF (xcons (xix (xv 0) xi) (xcons xi (xcons (xg n_EXPONENT) xnil))))) (xfn hleft_of sleft_of hr (by omega) tkF (xcons (xix (xv 0) xi) (xcons (xbin osub (xv 1) xi) (xcons (xbin osub (xv 2) xi) (xcons (xv 3) xnil))))) (xneg xi)))) ss_nil)
    (ss_cons (s_if (PW.pt (wa (tcmp (oin hr) bl_in (xix (xv 0) xi) (xtupK t_TWO_PARTS)) (wa1 (tcmp (oeq hr) bl_eq (xcB (bf_len rfl) b_len (xcons (xv 0) xnil)) xi)))) (ss_cons (sset 4 scleft_of.nd (xfn hleft_of sleft_of hr (by omega) tkF (xcons (xix (xv 0) xi) (xcons (xbin osub (xv 1) xi) (xcons (xbin osub (xv 2) xi) (xcons (xv 3) xnil))))))
    (ss_one (s_ret (xife (tcmp oge bl_ge (xv 4) xi) (xfn hleft_of sleft_of hr (by omega) tkF (xcons (xix (xv 0) xi) (xcons (xbin osub (xv 1) xi) (xcons (xv 4) (xcons (xv 3) xnil))))) (xneg xi))))) ss_nil)
    (ss_cons (s_if (PW.pt (wa (tcmp (oeq hr) bl_eq (xix (xv 0) xi) xs) (wa1 (tcmp (oeq hr) bl_eq (xcB (bf_len rfl) b_len (xcons (xv 0) xnil)) xi)))) (ss_cons (s_if (PW.pt (wo (tnot (tt (xfn his_end sis_end hr (by omega) tkF (xcons (xix (xv 0) xi) xnil)))) (wo1 (tnot (tt (xfn his_end sis_end hr (by omega) tkF (xcons (xix (xv 0) xi) xnil))))))) (ss_one (s_ret (xneg xi))) ss_nil)
    (ss_one (s_ret (xfn hleft_of sleft_of hr (by omega) tkF (xcons (xix (xv 0) xi) (xcons (xbin osub (xv 1) xi) (xcons (xbin osub (xv 2) xi) (xcons xb xnil)))))))) ss_nil)
    (ss_one (s_ret (xife (tt (xfn his_leaf sis_leaf hr (by omega) tkF (xcons (xv 0) (xcons (xv 3) xnil)))) (xbin osub (xv 2) xi) (xneg xi))))))))))
abbrev stfits_tree : Stmt := top 31
abbrev Nfits_tree : List Str := ["value"]
abbrev Pfits_tree : List Str := ["value"]
theorem scfits_tree : FnScope Nfits_tree Pfits_tree (defScope stfits_tree) := ⟨by kernel_rfl, by kernel_rfl, by kernel_rfl, by decide +kernel, by kernel_rfl, by decide +kernel, by decide +kernel⟩
def fsfits_tree (cleft_of : Ct) : FS :=
  (retS (binE geG (callE cleft_of (consF (varF 0) (consF (int! 12) (consF (int! 40) (consF (bl! false) nilF))))) (int! 0)))
theorem bodyfits_tree {P : Program} {w : World} {G : Gr} {base : Heap} {f : Addr} {cdv : Value} {A : Around} {outer : List PySem.Env} {s : Shared} {H : Hp} {E : XK} {k kleft_of : Nat} {cleft_of : Ct} (n_NODES : ∃ t, G.mg "NODES" = some (.int 40 t)) (n_HEIGHT : ∃ t, G.mg "HEIGHT" = some (.int 12 t)) (hleft_of : Has P w G base "left_of" Pleft_of kleft_of cleft_of) (sleft_of : Ct.sized cleft_of Pleft_of.length) (lleft_of : kleft_of ≤ k) 
    (hr : Room k (FX P w G base Nfits_tree "fits_tree" stfits_tree f (cdv) A outer s H E).A) : PSs (FX P w G base Nfits_tree "fits_tree" stfits_tree f (cdv) A outer s H E) (defBody stfits_tree) (tS G (WEx E) (fsfits_tree cleft_of)) := by
  exact (ss_one (s_ret (xcmp oge (xfn hleft_of sleft_of hr (by omega) tkF (xcons (xv 0) (xcons (xg n_HEIGHT) (xcons (xg n_NODES) (xcons xb xnil))))) xi)))
abbrev stis_tree : Stmt := top 37
abbrev Nis_tree : List Str := ["value"]
abbrev Pis_tree : List Str := ["value"]
theorem scis_tree : FnScope Nis_tree Pis_tree (defScope stis_tree) := ⟨by kernel_rfl, by kernel_rfl, by kernel_rfl, by decide +kernel, by kernel_rfl, by decide +kernel, by decide +kernel⟩
def fsis_tree (cfits_tree : Ct) : FS :=
  (retS (callE cfits_tree (consF (varF 0) nilF)))
theorem bodyis_tree {P : Program} {w : World} {G : Gr} {base : Heap} {f : Addr} {cdv : Value} {A : Around} {outer : List PySem.Env} {s : Shared} {H : Hp} {E : XK} {k kfits_tree : Nat} {cfits_tree : Ct}  (hfits_tree : Has P w G base "fits_tree" Pfits_tree kfits_tree cfits_tree) (sfits_tree : Ct.sized cfits_tree Pfits_tree.length) (lfits_tree : kfits_tree ≤ k) 
    (hr : Room k (FX P w G base Nis_tree "is_tree" stis_tree f (cdv) A outer s H E).A) : PSs (FX P w G base Nis_tree "is_tree" stis_tree f (cdv) A outer s H E) (defBody stis_tree) (tS G (WEx E) (fsis_tree cfits_tree)) := by
  exact (ss_one (s_ret (xfn hfits_tree sfits_tree hr (by omega) tkF (xcons (xv 0) xnil))))
abbrev stneed_tree : Stmt := top 36
abbrev Nneed_tree : List Str := ["value"]
abbrev Pneed_tree : List Str := ["value"]
theorem scneed_tree : FnScope Nneed_tree Pneed_tree (defScope stneed_tree) := ⟨by kernel_rfl, by kernel_rfl, by kernel_rfl, by decide +kernel, by kernel_rfl, by decide +kernel, by decide +kernel⟩
def fsneed_tree (cfits_tree : Ct) : FS :=
  (ifS (notF (truT (callE cfits_tree (consF (varF 0) nilF)))) (raiseS "InvalidTree") nilS)
theorem bodyneed_tree {P : Program} {w : World} {G : Gr} {base : Heap} {f : Addr} {cdv : Value} {A : Around} {outer : List PySem.Env} {s : Shared} {H : Hp} {E : XK} {k kfits_tree : Nat} {cfits_tree : Ct} (x_InvalidTree : ExcK G "InvalidTree") (hfits_tree : Has P w G base "fits_tree" Pfits_tree kfits_tree cfits_tree) (sfits_tree : Ct.sized cfits_tree Pfits_tree.length) (lfits_tree : kfits_tree ≤ k) 
    (hr : Room k (FX P w G base Nneed_tree "need_tree" stneed_tree f (cdv) A outer s H E).A) : PSs (FX P w G base Nneed_tree "need_tree" stneed_tree f (cdv) A outer s H E) (defBody stneed_tree) (tS G (WEx E) (fsneed_tree cfits_tree)) := by
  exact (ss_one (s_if (tnot (tt (xfn hfits_tree sfits_tree hr (by omega) tkF (xcons (xv 0) xnil)))) (ss_one (sraise x_InvalidTree tkF)) ss_nil))
abbrev stinner : Stmt := top 33
abbrev Ninner : List Str := ["tree"]
abbrev Pinner : List Str := ["tree"]
theorem scinner : FnScope Ninner Pinner (defScope stinner) := ⟨by kernel_rfl, by kernel_rfl, by kernel_rfl, by decide +kernel, by kernel_rfl, by decide +kernel, by decide +kernel⟩
def fsinner : FS :=
  (seqS (ifS (orF (cmpT inG (idxE (varF 0) (int! 0)) (tup! [.str "abs", .str "atan", .str "cos", .str "exp", .str "log", .str "minus", .str "sin", .str "sqrt"])) (cmpT inG (idxE (varF 0) (int! 0)) (tupE (consF (str! "area") (consF (str! "power") nilF))))) (retS (tupE (consF (idxE (varF 0) (int! 1)) nilF))) nilS)
    (retS (iteV (cmpT inG (idxE (varF 0) (int! 0)) (tup! [.str "by", .str "least", .str "less", .str "most", .str "plus", .str "times"])) (slcE false (varF 0) (someI (int! 1)) noF) (tupE nilF))))
theorem bodyinner {P : Program} {w : World} {G : Gr} {base : Heap} {f : Addr} {cdv : Value} {A : Around} {outer : List PySem.Env} {s : Shared} {H : Hp} {E : XK} {k  : Nat}  (t_ONE_PART : TupK G "ONE_PART" [.str "abs", .str "atan", .str "cos", .str "exp", .str "log", .str "minus", .str "sin", .str "sqrt"]) (t_TWO_PARTS : TupK G "TWO_PARTS" [.str "by", .str "least", .str "less", .str "most", .str "plus", .str "times"])  
    (hr : Room k (FX P w G base Ninner "inner" stinner f (cdv) A outer s H E).A) : PSs (FX P w G base Ninner "inner" stinner f (cdv) A outer s H E) (defBody stinner) (tS G (WEx E) (fsinner )) := by
  exact (ss_cons (s_if (PW.pt (wo (tcmp (oin hr) bl_in (xix (xv 0) xi) (xtupK t_ONE_PART)) (wo1 (tcmp (oin hr) bl_in (xix (xv 0) xi) (xtup (xcons xs (xcons xs xnil))))))) (ss_one (s_ret (xtup (xcons (xix (xv 0) xi) xnil)))) ss_nil)
    (ss_one (s_ret (xife (tcmp (oin hr) bl_in (xix (xv 0) xi) (xtupK t_TWO_PARTS)) (xsl false (xv 0) (os xi) on) (xtup xnil)))))
abbrev stparts : Stmt := top 34
abbrev Nparts : List Str := ["tree", "found", "part"]
abbrev Pparts : List Str := ["tree"]
theorem scparts : FnScope Nparts Pparts (defScope stparts) := ⟨by kernel_rfl, by kernel_rfl, by kernel_rfl, by decide +kernel, by kernel_rfl, by decide +kernel, by decide +kernel⟩
def fsparts (cinner cparts : Ct) : FS :=
  (seqS (setS 1 (lstE false (consF (varF 0) nilF)))
    (seqS (forS (itE (callE cinner (consF (varF 0) nilF))) (.name 2) (setS 1 (binE (addF false) (varF 1) (callE cparts (consF (varF 2) nilF)))))
    (retS (varF 1))))
theorem bodyparts {P : Program} {w : World} {G : Gr} {base : Heap} {f : Addr} {cdv : Value} {A : Around} {outer : List PySem.Env} {s : Shared} {H : Hp} {E : XK} {k kinner kparts : Nat} {cinner cparts : Ct}  (hinner : Has P w G base "inner" Pinner kinner cinner) (sinner : Ct.sized cinner Pinner.length) (linner : kinner ≤ k) (hparts : Has P w G base "parts" Pparts kparts cparts) (sparts : Ct.sized cparts Pparts.length) (lparts : kparts ≤ k) 
    (hr : Room k (FX P w G base Nparts "parts" stparts f (cdv) A outer s H E).A) : PSs (FX P w G base Nparts "parts" stparts f (cdv) A outer s H E) (defBody stparts) (tS G (WEx E) (fsparts cinner cparts)) := by
  exact (ss_cons (sset 1 scparts.nd (xlst false (xcons (xv 0) xnil)))
    (ss_cons (sfor poF (ival (xfn hinner sinner hr (by omega) tkF (xcons (xv 0) xnil))) (gname 2 scparts.nd) (ss_one (sset 1 scparts.nd (xbin (oadd false) (xv 1) (xfn hparts sparts hr (by omega) tkF (xcons (xv 2) xnil))))))
    (ss_one (s_ret (xv 1)))))
abbrev stis_told : Stmt := top 35
abbrev Nis_told : List Str := ["tree", "part"]
abbrev Pis_told : List Str := ["tree"]
theorem scis_told : FnScope Nis_told Pis_told (defScope stis_told) := ⟨by kernel_rfl, by kernel_rfl, by kernel_rfl, by decide +kernel, by kernel_rfl, by decide +kernel, by decide +kernel⟩
def fsis_told (cparts : Ct) : FS :=
  (retS (biE allB (consF (compF false (itE (callE cparts (consF (varF 0) nilF))) (.name 1) (retF true) (binE inG (idxE (varF 1) (int! 0)) (tup! [.str "abs", .str "by", .str "least", .str "less", .str "minus", .str "most", .str "number", .str "plus", .str "power", .str "root", .str "sqrt", .str "times"])) ([("part", 1)].map (·.2))) nilF)))
theorem bodyis_told {P : Program} {w : World} {G : Gr} {base : Heap} {f : Addr} {cdv : Value} {A : Around} {outer : List PySem.Env} {s : Shared} {H : Hp} {E : XK} {k kparts : Nat} {cparts : Ct} (t_TOLD : TupK G "TOLD" [.str "abs", .str "by", .str "least", .str "less", .str "minus", .str "most", .str "number", .str "plus", .str "power", .str "root", .str "sqrt", .str "times"]) (b_all : G.mg "all" = none) (hparts : Has P w G base "parts" Pparts kparts cparts) (sparts : Ct.sized cparts Pparts.length) (lparts : kparts ≤ k) 
    (hr : Room k (FX P w G base Nis_told "is_told" stis_told f (cdv) A outer s H E).A) : PSs (FX P w G base Nis_told "is_told" stis_told f (cdv) A outer s H E) (defBody stis_told) (tS G (WEx E) (fsis_told cparts)) := by
  exact (ss_one (s_ret (xcB (bf_all rfl rfl) b_all (xcons (xlc false [("part", 1)] scis_told.nd (ival (xfn hparts sparts hr (by omega) tkF (xcons (xv 0) xnil))) (gnameF 1 (fun _ => scis_told.nd)) (fun _ => ts_nil) (fun _ => (xcmp (oin hr) (xix (xv 1) xi) (xtupK t_TOLD)))) xnil))))
abbrev stis_algebraic : Stmt := top 39
abbrev Nis_algebraic : List Str := ["tree"]
abbrev Pis_algebraic : List Str := ["tree"]
theorem scis_algebraic : FnScope Nis_algebraic Pis_algebraic (defScope stis_algebraic) := ⟨by kernel_rfl, by kernel_rfl, by kernel_rfl, by decide +kernel, by kernel_rfl, by decide +kernel, by decide +kernel⟩
def fsis_algebraic (cneed_tree cis_told : Ct) : FS :=
  (seqS (exprS (callE cneed_tree (consF (varF 0) nilF)))
    (retS (callE cis_told (consF (varF 0) nilF))))
theorem bodyis_algebraic {P : Program} {w : World} {G : Gr} {base : Heap} {f : Addr} {cdv : Value} {A : Around} {outer : List PySem.Env} {s : Shared} {H : Hp} {E : XK} {k kneed_tree kis_told : Nat} {cneed_tree cis_told : Ct}  (hneed_tree : Has P w G base "need_tree" Pneed_tree kneed_tree cneed_tree) (sneed_tree : Ct.sized cneed_tree Pneed_tree.length) (lneed_tree : kneed_tree ≤ k) (his_told : Has P w G base "is_told" Pis_told kis_told cis_told) (sis_told : Ct.sized cis_told Pis_told.length) (lis_told : kis_told ≤ k) 
    (hr : Room k (FX P w G base Nis_algebraic "is_algebraic" stis_algebraic f (cdv) A outer s H E).A) : PSs (FX P w G base Nis_algebraic "is_algebraic" stis_algebraic f (cdv) A outer s H E) (defBody stis_algebraic) (tS G (WEx E) (fsis_algebraic cneed_tree cis_told)) := by
  exact (ss_cons (sexpr (xfn hneed_tree sneed_tree hr (by omega) tkF (xcons (xv 0) xnil)))
    (ss_one (s_ret (xfn his_told sis_told hr (by omega) tkF (xcons (xv 0) xnil)))))
abbrev stfits_integrand : Stmt := top 32
abbrev Nfits_integrand : List Str := ["value"]
abbrev Pfits_integrand : List Str := ["value"]
theorem scfits_integrand : FnScope Nfits_integrand Pfits_integrand (defScope stfits_integrand) := ⟨by kernel_rfl, by kernel_rfl, by kernel_rfl, by decide +kernel, by kernel_rfl, by decide +kernel, by decide +kernel⟩
def fsfits_integrand (cleft_of : Ct) : FS :=
  (retS (binE geG (callE cleft_of (consF (varF 0) (consF (int! 12) (consF (int! 40) (consF (bl! true) nilF))))) (int! 0)))
theorem bodyfits_integrand {P : Program} {w : World} {G : Gr} {base : Heap} {f : Addr} {cdv : Value} {A : Around} {outer : List PySem.Env} {s : Shared} {H : Hp} {E : XK} {k kleft_of : Nat} {cleft_of : Ct} (n_NODES : ∃ t, G.mg "NODES" = some (.int 40 t)) (n_HEIGHT : ∃ t, G.mg "HEIGHT" = some (.int 12 t)) (hleft_of : Has P w G base "left_of" Pleft_of kleft_of cleft_of) (sleft_of : Ct.sized cleft_of Pleft_of.length) (lleft_of : kleft_of ≤ k) 
    (hr : Room k (FX P w G base Nfits_integrand "fits_integrand" stfits_integrand f (cdv) A outer s H E).A) : PSs (FX P w G base Nfits_integrand "fits_integrand" stfits_integrand f (cdv) A outer s H E) (defBody stfits_integrand) (tS G (WEx E) (fsfits_integrand cleft_of)) := by
  exact (ss_one (s_ret (xcmp oge (xfn hleft_of sleft_of hr (by omega) tkF (xcons (xv 0) (xcons (xg n_HEIGHT) (xcons (xg n_NODES) (xcons xb xnil))))) xi)))
abbrev stis_integrand : Stmt := top 38
abbrev Nis_integrand : List Str := ["value"]
abbrev Pis_integrand : List Str := ["value"]
theorem scis_integrand : FnScope Nis_integrand Pis_integrand (defScope stis_integrand) := ⟨by kernel_rfl, by kernel_rfl, by kernel_rfl, by decide +kernel, by kernel_rfl, by decide +kernel, by decide +kernel⟩
def fsis_integrand (cfits_integrand : Ct) : FS :=
  (retS (callE cfits_integrand (consF (varF 0) nilF)))
theorem bodyis_integrand {P : Program} {w : World} {G : Gr} {base : Heap} {f : Addr} {cdv : Value} {A : Around} {outer : List PySem.Env} {s : Shared} {H : Hp} {E : XK} {k kfits_integrand : Nat} {cfits_integrand : Ct}  (hfits_integrand : Has P w G base "fits_integrand" Pfits_integrand kfits_integrand cfits_integrand) (sfits_integrand : Ct.sized cfits_integrand Pfits_integrand.length) (lfits_integrand : kfits_integrand ≤ k) 
    (hr : Room k (FX P w G base Nis_integrand "is_integrand" stis_integrand f (cdv) A outer s H E).A) : PSs (FX P w G base Nis_integrand "is_integrand" stis_integrand f (cdv) A outer s H E) (defBody stis_integrand) (tS G (WEx E) (fsis_integrand cfits_integrand)) := by
  exact (ss_one (s_ret (xfn hfits_integrand sfits_integrand hr (by omega) tkF (xcons (xv 0) xnil))))
abbrev st_law_integrands_right : Stmt := top 70
abbrev N_law_integrands_right : List Str := ["x", "high", "body", "turn", "lots", "less", "rows", "two", "own", "due", "row"]
abbrev P_law_integrands_right : List Str := []
theorem sc_law_integrands_right : FnScope N_law_integrands_right P_law_integrands_right (defScope st_law_integrands_right) := ⟨by kernel_rfl, by kernel_rfl, by kernel_rfl, by decide +kernel, by kernel_rfl, by decide +kernel, by decide +kernel⟩
def fs_law_integrands_right_0 : FS :=
  (asgS (.tup [(.name 0), (.name 1), (.name 2)]) (tupE (consF (tupE (consF (str! "unknown") nilF)) (consF (tupE (consF (str! "unknown") nilF)) (consF (tupE (consF (str! "unknown") nilF)) nilF)))))
def fs_law_integrands_right_1 : FS :=
  (setS 2 (tupE (consF (str! "times") (consF (varF 2) (consF (tupE (consF (str! "plus") (consF (tupE (consF (str! "minus") (consF (varF 0) nilF))) (consF (tupE (consF (str! "plus") (consF (tupE (consF (str! "minus") (consF (varF 0) nilF))) (consF (tupE (consF (str! "minus") (consF (varF 0) nilF))) nilF)))) nilF)))) nilF)))))
def fs_law_integrands_right_2 : FS :=
  (setS 4 (lstE false (consF (tupE (consF (varF 1) (consF (bl! true) nilF))) (consF (tupE (consF (tupE (consF (str! "sin") (consF (varF 1) nilF))) (consF (bl! false) nilF))) (consF (tupE (consF (varF 2) (consF (bl! true) nilF))) (consF (tupE (consF (tupE (consF (str! "sin") (consF (varF 2) nilF))) (consF (bl! false) nilF))) (consF (tupE (consF (tupE (consF (str! "plus") (consF (varF 2) (consF (varF 0) nilF)))) (consF (bl! false) nilF))) (consF (tupE (consF (idxE (varF 1) (int! 1)) (consF (bl! true) nilF))) nilF))))))))
def fs_law_integrands_right_3 (cis_integrand : Ct) : FS :=
  (ifS (cmpT neG (compF false (itE (varF 4)) (.tup [(.name 8), (.name 9)]) (cmpT neG (callE cis_integrand (consF (varF 8) nilF)) (varF 9)) (varF 8) ([("own", 8), ("due", 9)].map (·.2))) (lstE false nilF)) (retS (bl! false)) nilS)
def fs_law_integrands_right_4 : FS :=
  (setS 5 (tupE (consF (str! "times") (consF (idxE (varF 2) (int! 1)) (consF (tupE (consF (str! "plus") (consF (tupE (consF (str! "minus") (consF (varF 0) nilF))) (consF (tupE (consF (str! "plus") (consF (tupE (consF (str! "minus") (consF (varF 0) nilF))) (consF (varF 0) nilF)))) nilF)))) nilF)))))
def fs_law_integrands_right_5 : FS :=
  (setS 6 (lstE false (consF (tupE (consF (tupE (consF (str! "area") (consF (varF 2) (consF (tupE (consF (int! 0) (consF (int! 1) nilF))) (consF (tupE (consF (int! 1) (consF (int! 1) nilF))) nilF))))) (consF (bl! false) nilF))) (consF (tupE (consF (tupE (consF (str! "area") (consF (varF 5) (consF (tupE (consF (int! 0) (consF (int! 1) nilF))) (consF (tupE (consF (int! 1) (consF (int! 1) nilF))) nilF))))) (consF (bl! true) nilF))) (consF (tupE (consF (tupE (consF (str! "area") (consF (varF 1) (consF (tupE (consF (int! 0) (consF (int! 1) nilF))) (consF (tupE (consF (int! 1) (consF (int! 1) nilF))) nilF))))) (consF (bl! false) nilF))) (consF (tupE (consF (tupE (consF (str! "area") (consF (idxE (varF 1) (int! 1)) (consF (tupE (consF (int! 0) (consF (int! 1) nilF))) (consF (tupE (consF (int! 1) (consF (int! 1) nilF))) nilF))))) (consF (bl! true) nilF))) nilF))))))
def fs_law_integrands_right_6 : FS :=
  (setS 6 (binE (addF false) (varF 6) (lstE false (consF (tupE (consF (tupE (consF (str! "area") (consF (varF 0) (consF (tupE (consF (negE (int! 17)) (consF (int! 2) nilF))) (consF (tupE (consF (int! 0) (consF (int! 1) nilF))) nilF))))) (consF (bl! false) nilF))) (consF (tupE (consF (tupE (consF (str! "area") (consF (varF 0) (consF (tupE (consF (int! 0) (consF (int! 1) nilF))) (consF (tupE (consF (negE (int! 17)) (consF (int! 2) nilF))) nilF))))) (consF (bl! false) nilF))) (consF (tupE (consF (tupE (consF (str! "area") (consF (varF 0) (consF (tupE (consF (int! 17) (consF (int! 2) nilF))) (consF (tupE (consF (int! 0) (consF (int! 1) nilF))) nilF))))) (consF (bl! false) nilF))) nilF))))))
def fs_law_integrands_right_7 (cis_algebraic : Ct) : FS :=
  (ifS (cmpT neG (compF false (itE (tupE (consF (tupE (consF (str! "log") (consF (varF 7) nilF))) (consF (tupE (consF (str! "area") (consF (varF 0) (consF (tupE (consF (int! 0) (consF (int! 1) nilF))) (consF (tupE (consF (int! 1) (consF (int! 1) nilF))) nilF))))) (consF (tupE (consF (str! "plus") (consF (varF 7) (consF (tupE (consF (str! "log") (consF (varF 7) nilF))) nilF)))) (consF (tupE (consF (str! "sqrt") (consF (varF 7) nilF))) nilF)))))) (.name 8) (retF true) (callE cis_algebraic (consF (varF 8) nilF)) ([("own", 8)].map (·.2))) (lstE false (consF (bl! false) (consF (bl! false) (consF (bl! false) (consF (bl! true) nilF)))))) (retS (bl! false)) nilS)
def fs_law_integrands_right_8 (cis_tree : Ct) : FS :=
  (retS (binE eqG (compF false (itE (varF 6)) (.name 10) (cmpT neG (callE cis_tree (consF (idxE (varF 10) (int! 0)) nilF)) (idxE (varF 10) (int! 1))) (varF 10) ([("row", 10)].map (·.2))) (lstE false nilF)))
def fs_law_integrands_right (cis_integrand cis_algebraic cis_tree : Ct) : FS :=
  (seqS fs_law_integrands_right_0
    (seqS (forS (bindF (consF (int! 11) nilF) rng1) (.name 3) (setS 1 (tupE (consF (str! "minus") (consF (varF 1) nilF)))))
    (seqS (forS (bindF (consF (int! 4) nilF) rng1) (.name 3) (setS 2 (tupE (consF (str! "plus") (consF (varF 2) (consF (varF 2) nilF))))))
    (seqS fs_law_integrands_right_1
    (seqS fs_law_integrands_right_2
    (seqS (fs_law_integrands_right_3 cis_integrand)
    (seqS fs_law_integrands_right_4
    (seqS fs_law_integrands_right_5
    (seqS fs_law_integrands_right_6
    (seqS (setS 7 (tupE (consF (str! "number") (consF (tupE (consF (int! 2) (consF (int! 1) nilF))) nilF))))
    (seqS (fs_law_integrands_right_7 cis_algebraic)
    (fs_law_integrands_right_8 cis_tree))))))))))))
theorem body_law_integrands_right {P : Program} {w : World} {G : Gr} {base : Heap} {f : Addr} {cdv : Value} {A : Around} {outer : List PySem.Env} {s : Shared} {H : Hp} {E : XK} {k kis_integrand kis_algebraic kis_tree : Nat} {cis_integrand cis_algebraic cis_tree : Ct} (b_range : G.mg "range" = none) (his_integrand : Has P w G base "is_integrand" Pis_integrand kis_integrand cis_integrand) (sis_integrand : Ct.sized cis_integrand Pis_integrand.length) (lis_integrand : kis_integrand ≤ k) (his_algebraic : Has P w G base "is_algebraic" Pis_algebraic kis_algebraic cis_algebraic) (sis_algebraic : Ct.sized cis_algebraic Pis_algebraic.length) (lis_algebraic : kis_algebraic ≤ k) (his_tree : Has P w G base "is_tree" Pis_tree kis_tree cis_tree) (sis_tree : Ct.sized cis_tree Pis_tree.length) (lis_tree : kis_tree ≤ k) 
    (hr : Room k (FX P w G base N_law_integrands_right "_law_integrands_right" st_law_integrands_right f (cdv) A outer s H E).A) : PSs (FX P w G base N_law_integrands_right "_law_integrands_right" st_law_integrands_right f (cdv) A outer s H E) (defBody st_law_integrands_right) (tS G (WEx E) (fs_law_integrands_right cis_integrand cis_algebraic cis_tree)) := by
  exact (ss_cons (sasg (xtup (xcons (xtup (xcons xs xnil)) (xcons (xtup (xcons xs xnil)) (xcons (xtup (xcons xs xnil)) xnil)))) (gtup (gcons (gname 0 sc_law_integrands_right.nd) (gcons (gname 1 sc_law_integrands_right.nd) (gcons (gname 2 sc_law_integrands_right.nd) gs_nil)))))
    (ss_cons (sfor poF (irng1 b_range (xcons xi xnil)) (gname 3 sc_law_integrands_right.nd) (ss_one (sset 1 sc_law_integrands_right.nd (xtup (xcons xs (xcons (xv 1) xnil))))))
    (ss_cons (sfor poF (irng1 b_range (xcons xi xnil)) (gname 3 sc_law_integrands_right.nd) (ss_one (sset 2 sc_law_integrands_right.nd (xtup (xcons xs (xcons (xv 2) (xcons (xv 2) xnil)))))))
    (ss_cons (sset 2 sc_law_integrands_right.nd (xtup (xcons xs (xcons (xv 2) (xcons (xtup (xcons xs (xcons (xtup (xcons xs (xcons (xv 0) xnil))) (xcons (xtup (xcons xs (xcons (xtup (xcons xs (xcons (xv 0) xnil))) (xcons (xtup (xcons xs (xcons (xv 0) xnil))) xnil)))) xnil)))) xnil)))))
    (ss_cons (sset 4 sc_law_integrands_right.nd (xlst false (xcons (xtup (xcons (xv 1) (xcons xb xnil))) (xcons (xtup (xcons (xtup (xcons xs (xcons (xv 1) xnil))) (xcons xb xnil))) (xcons (xtup (xcons (xv 2) (xcons xb xnil))) (xcons (xtup (xcons (xtup (xcons xs (xcons (xv 2) xnil))) (xcons xb xnil))) (xcons (xtup (xcons (xtup (xcons xs (xcons (xv 2) (xcons (xv 0) xnil)))) (xcons xb xnil))) (xcons (xtup (xcons (xix (xv 1) xi) (xcons xb xnil))) xnil))))))))
    (ss_cons (s_if (tcmp (one' hr) bl_ne (xlc false [("own", 8), ("due", 9)] sc_law_integrands_right.nd (ival (xv 4)) (gtupF (gconsF (gnameF 8 (fun _ => sc_law_integrands_right.nd)) (gconsF (gnameF 9 (fun _ => sc_law_integrands_right.nd)) gnilF))) (fun _ => ts_one (tcmp (one' hr) bl_ne (xfn his_integrand sis_integrand hr (by omega) LamX.takes0 (xcons (xv 8) xnil)) (xv 9))) (fun _ => (xv 8))) (xlst false xnil)) (ss_one (s_ret xb)) ss_nil)
    (ss_cons (sset 5 sc_law_integrands_right.nd (xtup (xcons xs (xcons (xix (xv 2) xi) (xcons (xtup (xcons xs (xcons (xtup (xcons xs (xcons (xv 0) xnil))) (xcons (xtup (xcons xs (xcons (xtup (xcons xs (xcons (xv 0) xnil))) (xcons (xv 0) xnil)))) xnil)))) xnil)))))
    (ss_cons (sset 6 sc_law_integrands_right.nd (xlst false (xcons (xtup (xcons (xtup (xcons xs (xcons (xv 2) (xcons (xtup (xcons xi (xcons xi xnil))) (xcons (xtup (xcons xi (xcons xi xnil))) xnil))))) (xcons xb xnil))) (xcons (xtup (xcons (xtup (xcons xs (xcons (xv 5) (xcons (xtup (xcons xi (xcons xi xnil))) (xcons (xtup (xcons xi (xcons xi xnil))) xnil))))) (xcons xb xnil))) (xcons (xtup (xcons (xtup (xcons xs (xcons (xv 1) (xcons (xtup (xcons xi (xcons xi xnil))) (xcons (xtup (xcons xi (xcons xi xnil))) xnil))))) (xcons xb xnil))) (xcons (xtup (xcons (xtup (xcons xs (xcons (xix (xv 1) xi) (xcons (xtup (xcons xi (xcons xi xnil))) (xcons (xtup (xcons xi (xcons xi xnil))) xnil))))) (xcons xb xnil))) xnil))))))
    (ss_cons (sset 6 sc_law_integrands_right.nd (xbin (oadd false) (xv 6) (xlst false (xcons (xtup (xcons (xtup (xcons xs (xcons (xv 0) (xcons (xtup (xcons (xneg xi) (xcons xi xnil))) (xcons (xtup (xcons xi (xcons xi xnil))) xnil))))) (xcons xb xnil))) (xcons (xtup (xcons (xtup (xcons xs (xcons (xv 0) (xcons (xtup (xcons xi (xcons xi xnil))) (xcons (xtup (xcons (xneg xi) (xcons xi xnil))) xnil))))) (xcons xb xnil))) (xcons (xtup (xcons (xtup (xcons xs (xcons (xv 0) (xcons (xtup (xcons xi (xcons xi xnil))) (xcons (xtup (xcons xi (xcons xi xnil))) xnil))))) (xcons xb xnil))) xnil))))))
    (ss_cons (sset 7 sc_law_integrands_right.nd (xtup (xcons xs (xcons (xtup (xcons xi (xcons xi xnil))) xnil))))
    (ss_cons (s_if (tcmp (one' hr) bl_ne (xlc false [("own", 8)] sc_law_integrands_right.nd (ival (xtup (xcons (xtup (xcons xs (xcons (xv 7) xnil))) (xcons (xtup (xcons xs (xcons (xv 0) (xcons (xtup (xcons xi (xcons xi xnil))) (xcons (xtup (xcons xi (xcons xi xnil))) xnil))))) (xcons (xtup (xcons xs (xcons (xv 7) (xcons (xtup (xcons xs (xcons (xv 7) xnil))) xnil)))) (xcons (xtup (xcons xs (xcons (xv 7) xnil))) xnil)))))) (gnameF 8 (fun _ => sc_law_integrands_right.nd)) (fun _ => ts_nil) (fun _ => (xfn his_algebraic sis_algebraic hr (by omega) LamX.takes0 (xcons (xv 8) xnil)))) (xlst false (xcons xb (xcons xb (xcons xb (xcons xb xnil)))))) (ss_one (s_ret xb)) ss_nil)
    (ss_one (s_ret (xcmp (oeq hr) (xlc false [("row", 10)] sc_law_integrands_right.nd (ival (xv 6)) (gnameF 10 (fun _ => sc_law_integrands_right.nd)) (fun _ => ts_one (tcmp (one' hr) bl_ne (xfn his_tree sis_tree hr (by omega) LamX.takes0 (xcons (xix (xv 10) xi) xnil)) (xix (xv 10) xi))) (fun _ => (xv 10))) (xlst false xnil)))))))))))))))
abbrev st_law_error : Stmt := top 60
abbrev N_law_error : List Str := ["call"]
theorem sc_law_error : FnScope N_law_error ["call"] (defScope st_law_error) := ⟨by kernel_rfl, by kernel_rfl, by kernel_rfl, by decide +kernel, by kernel_rfl, by decide +kernel, by decide +kernel⟩
abbrev hs_law_error : List (Str × Str) := [("InvalidNumber", "number"), ("InvalidTree", "tree"), ("NearError", "other")]
def w_law_error (x : Str) : Option Str := List.lookup x ([("NearError", "other"), ("InvalidTree", "tree"), ("InvalidNumber", "number")] : List (Str × Str))
theorem tell_law_error {X : Cx} {g : Addr} {cdv : Value} {q : Str} (hc : ∀ z ∈ hs_law_error, X.mg z.1 = some (.ref (He.ga X.K z.1))) : LamX.GivesTo X N_law_error "_law_error" (defScope st_law_error) g cdv (defBody st_law_error) "call" q (TTm X.K (hdl X.K hs_law_error) "") :=
  gives_many (l := hdl X.K hs_law_error) (fun s H => (.cons (by unfold Gl; kernel_rfl) (by kernel_rfl) (hc ("InvalidNumber", "number") (List.Mem.head _)) (.cons (by unfold Gl; kernel_rfl) (by kernel_rfl) (hc ("InvalidTree", "tree") (List.Mem.tail _ (List.Mem.head _))) (.cons (by unfold Gl; kernel_rfl) (by kernel_rfl) (hc ("NearError", "other") (List.Mem.tail _ (List.Mem.tail _ (List.Mem.head _)))) .nil)))) (fun f => by kernel_rfl) (fun env => by kernel_rfl)
abbrev st_law_is_whole : Stmt := top 62
abbrev N_law_is_whole : List Str := ["value", "low", "high"]
abbrev P_law_is_whole : List Str := ["value", "low", "high"]
theorem sc_law_is_whole : FnScope N_law_is_whole P_law_is_whole (defScope st_law_is_whole) := ⟨by kernel_rfl, by kernel_rfl, by kernel_rfl, by decide +kernel, by kernel_rfl, by decide +kernel, by decide +kernel⟩
def fs_law_is_whole : FS :=
  (retS (andV (biE isiB (consF (varF 0) (consF (ty! "int") nilF))) (andV (notV (biE isiB (consF (varF 0) (consF (ty! "bool") nilF)))) (chF leG leG (varF 1) (varF 0) (varF 2)))))
theorem body_law_is_whole {P : Program} {w : World} {G : Gr} {base : Heap} {f : Addr} {cdv : Value} {A : Around} {outer : List PySem.Env} {s : Shared} {H : Hp} {E : XK} {k  : Nat}  (b_int : G.mg "int" = none) (b_isinstance : G.mg "isinstance" = none) (b_bool : G.mg "bool" = none)  
    (hr : Room k (FX P w G base N_law_is_whole "_law_is_whole" st_law_is_whole f (cdv) A outer s H E).A) : PSs (FX P w G base N_law_is_whole "_law_is_whole" st_law_is_whole f (cdv) A outer s H E) (defBody st_law_is_whole) (tS G (WEx E) (fs_law_is_whole )) := by
  exact (ss_one (s_ret (xand (xcB (bf_isi rfl) b_isinstance (xcons (xv 0) (xcons (xty b_int) xnil))) (xand (xnot (xcB (bf_isi rfl) b_isinstance (xcons (xv 0) (xcons (xty b_bool) xnil)))) (xone (xch ole ole (xv 1) (xv 0) (xv 2)))))))
abbrev st_law_common : Stmt := top 46
abbrev N_law_common : List Str := ["one", "other"]
abbrev P_law_common : List Str := ["one", "other"]
theorem sc_law_common : FnScope N_law_common P_law_common (defScope st_law_common) := ⟨by kernel_rfl, by kernel_rfl, by kernel_rfl, by decide +kernel, by kernel_rfl, by decide +kernel, by decide +kernel⟩
def fs_law_common : FS :=
  (seqS (whileS (truT (varF 1)) (parS 0 1 (consF (varF 1) (consF (binE modG (biE intB (consF (varF 0) nilF)) (varF 1)) nilF))))
    (retS (iteV (cmpT gtG (varF 0) (int! 0)) (varF 0) (negE (varF 0)))))
theorem body_law_common {P : Program} {w : World} {G : Gr} {base : Heap} {f : Addr} {cdv : Value} {A : Around} {outer : List PySem.Env} {s : Shared} {H : Hp} {E : XK} {k  : Nat}  (b_int : G.mg "int" = none)  
    (hr : Room k (FX P w G base N_law_common "_law_common" st_law_common f (cdv) A outer s H E).A) : PSs (FX P w G base N_law_common "_law_common" st_law_common f (cdv) A outer s H E) (defBody st_law_common) (tS G (WEx E) (fs_law_common )) := by
  exact (ss_cons (s_while poF (tt (xv 1)) (ss_one (spar 0 1 sc_law_common.nd (xcons (xv 1) (xcons (xbin omod (xcT bf_int b_int (xcons (xv 0) xnil)) (xv 1)) xnil)))))
    (ss_one (s_ret (xife (tcmp ogt bl_gt (xv 0) xi) (xv 0) (xneg (xv 0))))))
abbrev st_law_made : Stmt := top 47
abbrev N_law_made : List Str := ["over", "under", "common"]
abbrev P_law_made : List Str := ["over", "under"]
theorem sc_law_made : FnScope N_law_made P_law_made (defScope st_law_made) := ⟨by kernel_rfl, by kernel_rfl, by kernel_rfl, by decide +kernel, by kernel_rfl, by decide +kernel, by decide +kernel⟩
def fs_law_made (c_law_common : Ct) : FS :=
  (seqS (setS 2 (callE c_law_common (consF (varF 0) (consF (varF 1) nilF))))
    (seqS (setS 2 (iteV (cmpT gtG (varF 1) (int! 0)) (varF 2) (negE (varF 2))))
    (retS (tupE (consF (binE fdivG (varF 0) (varF 2)) (consF (binE fdivG (varF 1) (varF 2)) nilF))))))
theorem body_law_made {P : Program} {w : World} {G : Gr} {base : Heap} {f : Addr} {cdv : Value} {A : Around} {outer : List PySem.Env} {s : Shared} {H : Hp} {E : XK} {k k_law_common : Nat} {c_law_common : Ct}  (h_law_common : Has P w G base "_law_common" P_law_common k_law_common c_law_common) (s_law_common : Ct.sized c_law_common P_law_common.length) (l_law_common : k_law_common ≤ k) 
    (hr : Room k (FX P w G base N_law_made "_law_made" st_law_made f (cdv) A outer s H E).A) : PSs (FX P w G base N_law_made "_law_made" st_law_made f (cdv) A outer s H E) (defBody st_law_made) (tS G (WEx E) (fs_law_made c_law_common)) := by
  exact (ss_cons (sset 2 sc_law_made.nd (xfn h_law_common s_law_common hr (by omega) tkF (xcons (xv 0) (xcons (xv 1) xnil))))
    (ss_cons (sset 2 sc_law_made.nd (xife (tcmp ogt bl_gt (xv 1) xi) (xv 2) (xneg (xv 2))))
    (ss_one (s_ret (xtup (xcons (xbin ofdiv (xv 0) (xv 2)) (xcons (xbin ofdiv (xv 1) (xv 2)) xnil)))))))
abbrev st_law_is_any : Stmt := top 63
abbrev N_law_is_any : List Str := ["value", "own"]
abbrev P_law_is_any : List Str := ["value"]
theorem sc_law_is_any : FnScope N_law_is_any P_law_is_any (defScope st_law_is_any) := ⟨by kernel_rfl, by kernel_rfl, by kernel_rfl, by decide +kernel, by kernel_rfl, by decide +kernel, by decide +kernel⟩
def fs_law_is_any (c_law_made : Ct) : FS :=
  (seqS (ifS (orF (notF (truT (biE isiB (consF (varF 0) (consF (ty! "tuple") nilF))))) (orF (cmpT neG (biE lenB (consF (varF 0) nilF)) (int! 2)) (cmpT neG (compF false (itE (varF 0)) (.name 1) (orF (truT (biE isiB (consF (varF 1) (consF (ty! "bool") nilF)))) (notF (truT (biE isiB (consF (varF 1) (consF (ty! "int") nilF)))))) (varF 1) ([("own", 1)].map (·.2))) (lstE false nilF)))) (retS (bl! false)) nilS)
    (retS (andV (binE gtG (idxE (varF 0) (int! 1)) (int! 0)) (binE eqG (callE c_law_made (consF (idxE (varF 0) (int! 0)) (consF (idxE (varF 0) (int! 1)) nilF))) (varF 0)))))
theorem body_law_is_any {P : Program} {w : World} {G : Gr} {base : Heap} {f : Addr} {cdv : Value} {A : Around} {outer : List PySem.Env} {s : Shared} {H : Hp} {E : XK} {k k_law_made : Nat} {c_law_made : Ct} (b_tuple : G.mg "tuple" = none) (b_isinstance : G.mg "isinstance" = none) (b_len : G.mg "len" = none) (b_bool : G.mg "bool" = none) (b_int : G.mg "int" = none) (h_law_made : Has P w G base "_law_made" P_law_made k_law_made c_law_made) (s_law_made : Ct.sized c_law_made P_law_made.length) (l_law_made : k_law_made ≤ k) 
    (hr : Room k (FX P w G base N_law_is_any "_law_is_any" st_law_is_any f (cdv) A outer s H E).A) : PSs (FX P w G base N_law_is_any "_law_is_any" st_law_is_any f (cdv) A outer s H E) (defBody st_law_is_any) (tS G (WEx E) (fs_law_is_any c_law_made)) := by
  exact (ss_cons (s_if (PW.pt (wo (tnot (tt (xcB (bf_isi rfl) b_isinstance (xcons (xv 0) (xcons (xty b_tuple) xnil))))) (wo (tcmp (one' hr) bl_ne (xcB (bf_len rfl) b_len (xcons (xv 0) xnil)) xi) (wo1 (tcmp (one' hr) bl_ne (xlc false [("own", 1)] sc_law_is_any.nd (ival (xv 0)) (gnameF 1 (fun _ => sc_law_is_any.nd)) (fun _ => ts_one (PW.pt (wo (tt (xcB (bf_isi rfl) b_isinstance (xcons (xv 1) (xcons (xty b_bool) xnil)))) (wo1 (tnot (tt (xcB (bf_isi rfl) b_isinstance (xcons (xv 1) (xcons (xty b_int) xnil))))))))) (fun _ => (xv 1))) (xlst false xnil)))))) (ss_one (s_ret xb)) ss_nil)
    (ss_one (s_ret (xand (xcmp ogt (xix (xv 0) xi) xi) (xone (xcmp (oeq hr) (xfn h_law_made s_law_made hr (by omega) tkF (xcons (xix (xv 0) xi) (xcons (xix (xv 0) xi) xnil))) (xv 0)))))))
abbrev st_law_is_fraction : Stmt := top 64
abbrev N_law_is_fraction : List Str := ["value"]
abbrev P_law_is_fraction : List Str := ["value"]
theorem sc_law_is_fraction : FnScope N_law_is_fraction P_law_is_fraction (defScope st_law_is_fraction) := ⟨by kernel_rfl, by kernel_rfl, by kernel_rfl, by decide +kernel, by kernel_rfl, by decide +kernel, by decide +kernel⟩
def fs_law_is_fraction (c_law_is_any : Ct) : FS :=
  (retS (andV (callE c_law_is_any (consF (varF 0) nilF)) (andV (binE leG (biE absB (consF (idxE (varF 0) (int! 0)) nilF)) (binE powG (int! 10) (int! 12))) (binE leG (idxE (varF 0) (int! 1)) (binE powG (int! 10) (int! 12))))))
theorem body_law_is_fraction {P : Program} {w : World} {G : Gr} {base : Heap} {f : Addr} {cdv : Value} {A : Around} {outer : List PySem.Env} {s : Shared} {H : Hp} {E : XK} {k k_law_is_any : Nat} {c_law_is_any : Ct} (b_abs : G.mg "abs" = none) (h_law_is_any : Has P w G base "_law_is_any" P_law_is_any k_law_is_any c_law_is_any) (s_law_is_any : Ct.sized c_law_is_any P_law_is_any.length) (l_law_is_any : k_law_is_any ≤ k) 
    (hr : Room k (FX P w G base N_law_is_fraction "_law_is_fraction" st_law_is_fraction f (cdv) A outer s H E).A) : PSs (FX P w G base N_law_is_fraction "_law_is_fraction" st_law_is_fraction f (cdv) A outer s H E) (defBody st_law_is_fraction) (tS G (WEx E) (fs_law_is_fraction c_law_is_any)) := by
  exact (ss_one (s_ret (xand (xfn h_law_is_any s_law_is_any hr (by omega) tkF (xcons (xv 0) xnil)) (xand (xcmp ole (xcB bf_abs b_abs (xcons (xix (xv 0) xi) xnil)) (xbin opow xi xi)) (xone (xcmp ole (xix (xv 0) xi) (xbin opow xi xi)))))))
abbrev st_law_is_line : Stmt := top 65
abbrev N_law_is_line : List Str := ["value", "own"]
abbrev P_law_is_line : List Str := ["value"]
theorem sc_law_is_line : FnScope N_law_is_line P_law_is_line (defScope st_law_is_line) := ⟨by kernel_rfl, by kernel_rfl, by kernel_rfl, by decide +kernel, by kernel_rfl, by decide +kernel, by decide +kernel⟩
def fs_law_is_line (c_law_is_whole : Ct) : FS :=
  (seqS (ifS (orF (notF (truT (biE isiB (consF (varF 0) (consF (ty! "tuple") nilF))))) (orF (cmpT gtG (biE lenB (consF (varF 0) nilF)) (int! 9)) (cmpT neG (compF false (itE (varF 0)) (.name 1) (notF (truT (callE c_law_is_whole (consF (varF 1) (consF (negE (binE powG (int! 10) (int! 6))) (consF (binE powG (int! 10) (int! 6)) nilF)))))) (varF 1) ([("own", 1)].map (·.2))) (lstE false nilF)))) (retS (bl! false)) nilS)
    (retS (orV (binE eqG (varF 0) (tupE nilF)) (binE neG (idxE (varF 0) (negE (int! 1))) (int! 0)))))
theorem body_law_is_line {P : Program} {w : World} {G : Gr} {base : Heap} {f : Addr} {cdv : Value} {A : Around} {outer : List PySem.Env} {s : Shared} {H : Hp} {E : XK} {k k_law_is_whole : Nat} {c_law_is_whole : Ct} (b_tuple : G.mg "tuple" = none) (b_isinstance : G.mg "isinstance" = none) (b_len : G.mg "len" = none) (h_law_is_whole : Has P w G base "_law_is_whole" P_law_is_whole k_law_is_whole c_law_is_whole) (s_law_is_whole : Ct.sized c_law_is_whole P_law_is_whole.length) (l_law_is_whole : k_law_is_whole ≤ k) 
    (hr : Room k (FX P w G base N_law_is_line "_law_is_line" st_law_is_line f (cdv) A outer s H E).A) : PSs (FX P w G base N_law_is_line "_law_is_line" st_law_is_line f (cdv) A outer s H E) (defBody st_law_is_line) (tS G (WEx E) (fs_law_is_line c_law_is_whole)) := by
  exact (ss_cons (s_if (PW.pt (wo (tnot (tt (xcB (bf_isi rfl) b_isinstance (xcons (xv 0) (xcons (xty b_tuple) xnil))))) (wo (tcmp ogt bl_gt (xcB (bf_len rfl) b_len (xcons (xv 0) xnil)) xi) (wo1 (tcmp (one' hr) bl_ne (xlc false [("own", 1)] sc_law_is_line.nd (ival (xv 0)) (gnameF 1 (fun _ => sc_law_is_line.nd)) (fun _ => ts_one (tnot (tt (xfn h_law_is_whole s_law_is_whole hr (by omega) LamX.takes0 (xcons (xv 1) (xcons (xneg (xbin opow xi xi)) (xcons (xbin opow xi xi) xnil))))))) (fun _ => (xv 1))) (xlst false xnil)))))) (ss_one (s_ret xb)) ss_nil)
    (ss_one (s_ret (xor' (xcmp (oeq hr) (xv 0) (xtup xnil)) (xone (xcmp (one' hr) (xix (xv 0) (xneg xi)) xi))))))
abbrev st_law_is_tree : Stmt := top 66
abbrev N_law_is_tree : List Str := ["value", "is_free", "good", "own"]
abbrev P_law_is_tree : List Str := ["value", "is_free"]
theorem sc_law_is_tree : FnScope N_law_is_tree P_law_is_tree (defScope st_law_is_tree) := ⟨by kernel_rfl, by kernel_rfl, by kernel_rfl, by decide +kernel, by kernel_rfl, by decide +kernel, by decide +kernel⟩
def fs_law_is_tree_0 : FS :=
  (ifS (orF (notF (truT (biE isiB (consF (varF 0) (consF (ty! "tuple") nilF))))) (orF (cmpT ltG (biE lenB (consF (varF 0) nilF)) (int! 1)) (notF (truT (biE isiB (consF (idxE (varF 0) (int! 0)) (consF (ty! "str") nilF))))))) (retS (bl! false)) nilS)
def fs_law_is_tree_1 : FS :=
  (ifS (andF (truT (varF 1)) (cmpT inG (idxE (varF 0) (int! 0)) (lstE false (consF (str! "abs") (consF (str! "area") (consF (str! "atan") (consF (str! "by") (consF (str! "least") (consF (str! "log") (consF (str! "most") (consF (str! "root") (consF (str! "sqrt") nilF)))))))))))) (retS (bl! false)) nilS)
def fs_law_is_tree_2 (c_law_is_tree : Ct) : FS :=
  (ifS (cmpT inG (idxE (varF 0) (int! 0)) (lstE false (consF (str! "abs") (consF (str! "atan") (consF (str! "cos") (consF (str! "exp") (consF (str! "log") (consF (str! "minus") (consF (str! "sin") (consF (str! "sqrt") nilF)))))))))) (retS (andV (binE eqG (biE lenB (consF (varF 0) nilF)) (int! 2)) (callE c_law_is_tree (consF (idxE (varF 0) (int! 1)) (consF (varF 1) nilF))))) nilS)
def fs_law_is_tree_3 (c_law_is_tree : Ct) : FS :=
  (ifS (cmpT inG (idxE (varF 0) (int! 0)) (lstE false (consF (str! "by") (consF (str! "least") (consF (str! "less") (consF (str! "most") (consF (str! "plus") (consF (str! "times") nilF)))))))) (retS (andV (binE eqG (biE lenB (consF (varF 0) nilF)) (int! 3)) (andV (callE c_law_is_tree (consF (idxE (varF 0) (int! 1)) (consF (varF 1) nilF))) (callE c_law_is_tree (consF (idxE (varF 0) (int! 2)) (consF (varF 1) nilF)))))) nilS)
def fs_law_is_tree_4 (c_law_is_tree c_law_is_whole : Ct) : FS :=
  (ifS (cmpT eqG (idxE (varF 0) (int! 0)) (str! "power")) (retS (andV (binE eqG (biE lenB (consF (varF 0) nilF)) (int! 3)) (andV (callE c_law_is_tree (consF (idxE (varF 0) (int! 1)) (consF (varF 1) nilF))) (callE c_law_is_whole (consF (idxE (varF 0) (int! 2)) (consF (int! 0) (consF (int! 12) nilF))))))) nilS)
def fs_law_is_tree_5 (c_law_is_fraction : Ct) : FS :=
  (ifS (cmpT eqG (idxE (varF 0) (int! 0)) (str! "number")) (retS (andV (binE eqG (biE lenB (consF (varF 0) nilF)) (int! 2)) (callE c_law_is_fraction (consF (idxE (varF 0) (int! 1)) nilF)))) nilS)
def fs_law_is_tree_6 (c_law_is_line c_law_is_whole : Ct) : FS :=
  (ifS (cmpT eqG (idxE (varF 0) (int! 0)) (str! "root")) (retS (andV (binE eqG (biE lenB (consF (varF 0) nilF)) (int! 3)) (andV (callE c_law_is_line (consF (idxE (varF 0) (int! 1)) nilF)) (andV (binE gtG (biE lenB (consF (idxE (varF 0) (int! 1)) nilF)) (int! 1)) (callE c_law_is_whole (consF (idxE (varF 0) (int! 2)) (consF (int! 0) (consF (int! 7) nilF)))))))) nilS)
def fs_law_is_tree_7 (c_law_is_tree c_law_is_fraction : Ct) : FS :=
  (ifS (cmpT eqG (idxE (varF 0) (int! 0)) (str! "area")) (seqS (setS 2 (andV (binE eqG (biE lenB (consF (varF 0) nilF)) (int! 4)) (andV (callE c_law_is_tree (consF (idxE (varF 0) (int! 1)) (consF (bl! true) nilF))) (andV (callE c_law_is_fraction (consF (idxE (varF 0) (int! 2)) nilF)) (callE c_law_is_fraction (consF (idxE (varF 0) (int! 3)) nilF))))))
    (retS (andV (varF 2) (binE eqG (compF false (itE (slcE false (varF 0) (someI (int! 2)) noF)) (.name 3) (cmpT gtG (biE absB (consF (idxE (varF 3) (int! 0)) nilF)) (binE (mulF false) (int! 8) (idxE (varF 3) (int! 1)))) (varF 3) ([("own", 3)].map (·.2))) (lstE false nilF))))) nilS)
def fs_law_is_tree (c_law_is_tree c_law_is_whole c_law_is_fraction c_law_is_line : Ct) : FS :=
  (seqS fs_law_is_tree_0
    (seqS fs_law_is_tree_1
    (seqS (fs_law_is_tree_2 c_law_is_tree)
    (seqS (fs_law_is_tree_3 c_law_is_tree)
    (seqS (fs_law_is_tree_4 c_law_is_tree c_law_is_whole)
    (seqS (fs_law_is_tree_5 c_law_is_fraction)
    (seqS (fs_law_is_tree_6 c_law_is_line c_law_is_whole)
    (seqS (fs_law_is_tree_7 c_law_is_tree c_law_is_fraction)
    (retS (orV (binE eqG (varF 0) (tupE (consF (str! "pi") nilF))) (andV (binE eqG (varF 0) (tupE (consF (str! "unknown") nilF))) (varF 1))))))))))))
theorem body_law_is_tree {P : Program} {w : World} {G : Gr} {base : Heap} {f : Addr} {cdv : Value} {A : Around} {outer : List PySem.Env} {s : Shared} {H : Hp} {E : XK} {k k_law_is_tree k_law_is_whole k_law_is_fraction k_law_is_line : Nat} {c_law_is_tree c_law_is_whole c_law_is_fraction c_law_is_line : Ct} (b_tuple : G.mg "tuple" = none) (b_isinstance : G.mg "isinstance" = none) (b_len : G.mg "len" = none) (b_str : G.mg "str" = none) (b_abs : G.mg "abs" = none) (h_law_is_tree : Has P w G base "_law_is_tree" P_law_is_tree k_law_is_tree c_law_is_tree) (s_law_is_tree : Ct.sized c_law_is_tree P_law_is_tree.length) (l_law_is_tree : k_law_is_tree ≤ k) (h_law_is_whole : Has P w G base "_law_is_whole" P_law_is_whole k_law_is_whole c_law_is_whole) (s_law_is_whole : Ct.sized c_law_is_whole P_law_is_whole.length) (l_law_is_whole : k_law_is_whole ≤ k) (h_law_is_fraction : Has P w G base "_law_is_fraction" P_law_is_fraction k_law_is_fraction c_law_is_fraction) (s_law_is_fraction : Ct.sized c_law_is_fraction P_law_is_fraction.length) (l_law_is_fraction : k_law_is_fraction ≤ k) (h_law_is_line : Has P w G base "_law_is_line" P_law_is_line k_law_is_line c_law_is_line) (s_law_is_line : Ct.sized c_law_is_line P_law_is_line.length) (l_law_is_line : k_law_is_line ≤ k) 
    (hr : Room k (FX P w G base N_law_is_tree "_law_is_tree" st_law_is_tree f (cdv) A outer s H E).A) : PSs (FX P w G base N_law_is_tree "_law_is_tree" st_law_is_tree f (cdv) A outer s H E) (defBody st_law_is_tree) (tS G (WEx E) (fs_law_is_tree c_law_is_tree c_law_is_whole c_law_is_fraction c_law_is_line)) := by
  exact (ss_cons (s_if (PW.pt (wo (tnot (tt (xcB (bf_isi rfl) b_isinstance (xcons (xv 0) (xcons (xty b_tuple) xnil))))) (wo (tcmp olt bl_lt (xcB (bf_len rfl) b_len (xcons (xv 0) xnil)) xi) (wo1 (tnot (tt (xcB (bf_isi rfl) b_isinstance (xcons (xix (xv 0) xi) (xcons (xty b_str) xnil))))))))) (ss_one (s_ret xb)) ss_nil)
    (ss_cons (s_if (PW.pt (wa (tt (xv 1)) (wa1 (tcmp (oin hr) bl_in (xix (xv 0) xi) (xlst false (xcons xs (xcons xs (xcons xs (xcons xs (xcons xs (xcons xs (xcons xs (xcons xs (xcons xs xnil)))))))))))))) (ss_one (s_ret xb)) ss_nil)
    (ss_cons (s_if (tcmp (oin hr) bl_in (xix (xv 0) xi) (xlst false (xcons xs (xcons xs (xcons xs (xcons xs (xcons xs (xcons xs (xcons xs (xcons xs xnil)))))))))) (ss_one (s_ret (xand (xcmp (oeq hr) (xcB (bf_len rfl) b_len (xcons (xv 0) xnil)) xi) (xone (xfn h_law_is_tree s_law_is_tree hr (by omega) tkF (xcons (xix (xv 0) xi) (xcons (xv 1) xnil))))))) ss_nil)
    (ss_cons (s_if (tcmp (oin hr) bl_in (xix (xv 0) xi) (xlst false (xcons xs (xcons xs (xcons xs (xcons xs (xcons xs (xcons xs xnil)))))))) (ss_one (s_ret (xand (xcmp (oeq hr) (xcB (bf_len rfl) b_len (xcons (xv 0) xnil)) xi) (xand (xfn h_law_is_tree s_law_is_tree hr (by omega) tkF (xcons (xix (xv 0) xi) (xcons (xv 1) xnil))) (xone (xfn h_law_is_tree s_law_is_tree hr (by omega) tkF (xcons (xix (xv 0) xi) (xcons (xv 1) xnil)))))))) ss_nil)
    (ss_cons (s_if (tcmp (oeq hr) bl_eq (xix (xv 0) xi) xs) (ss_one (s_ret (xand (xcmp (oeq hr) (xcB (bf_len rfl) b_len (xcons (xv 0) xnil)) xi) (xand (xfn h_law_is_tree s_law_is_tree hr (by omega) tkF (xcons (xix (xv 0) xi) (xcons (xv 1) xnil))) (xone (xfn h_law_is_whole s_law_is_whole hr (by omega) tkF (xcons (xix (xv 0) xi) (xcons xi (xcons xi xnil))))))))) ss_nil)
    (ss_cons (s_if (tcmp (oeq hr) bl_eq (xix (xv 0) xi) xs) (ss_one (s_ret (xand (xcmp (oeq hr) (xcB (bf_len rfl) b_len (xcons (xv 0) xnil)) xi) (xone (xfn h_law_is_fraction s_law_is_fraction hr (by omega) tkF (xcons (xix (xv 0) xi) xnil)))))) ss_nil)
    (ss_cons (s_if (tcmp (oeq hr) bl_eq (xix (xv 0) xi) xs) (ss_one (s_ret (xand (xcmp (oeq hr) (xcB (bf_len rfl) b_len (xcons (xv 0) xnil)) xi) (xand (xfn h_law_is_line s_law_is_line hr (by omega) tkF (xcons (xix (xv 0) xi) xnil)) (xand (xcmp ogt (xcB (bf_len rfl) b_len (xcons (xix (xv 0) xi) xnil)) xi) (xone (xfn h_law_is_whole s_law_is_whole hr (by omega) tkF (xcons (xix (xv 0) xi) (xcons xi (xcons xi xnil)))))))))) ss_nil)
    (ss_cons (s_if (tcmp (oeq hr) bl_eq (xix (xv 0) xi) xs) (ss_cons (sset 2 sc_law_is_tree.nd (xand (xcmp (oeq hr) (xcB (bf_len rfl) b_len (xcons (xv 0) xnil)) xi) (xand (xfn h_law_is_tree s_law_is_tree hr (by omega) tkF (xcons (xix (xv 0) xi) (xcons xb xnil))) (xand (xfn h_law_is_fraction s_law_is_fraction hr (by omega) tkF (xcons (xix (xv 0) xi) xnil)) (xone (xfn h_law_is_fraction s_law_is_fraction hr (by omega) tkF (xcons (xix (xv 0) xi) xnil)))))))
    (ss_one (s_ret (xand (xv 2) (xone (xcmp (oeq hr) (xlc false [("own", 3)] sc_law_is_tree.nd (ival (xsl false (xv 0) (os xi) on)) (gnameF 3 (fun _ => sc_law_is_tree.nd)) (fun _ => ts_one (tcmp ogt bl_gt (xcB bf_abs b_abs (xcons (xix (xv 3) xi) xnil)) (xbin (omul false) xi (xix (xv 3) xi)))) (fun _ => (xv 3))) (xlst false xnil))))))) ss_nil)
    (ss_one (s_ret (xor' (xcmp (oeq hr) (xv 0) (xtup (xcons xs xnil))) (xone (xand (xcmp (oeq hr) (xv 0) (xtup (xcons xs xnil))) (xone (xv 1)))))))))))))))
abbrev st_law_inner : Stmt := top 54
abbrev N_law_inner : List Str := ["tree", "part"]
abbrev P_law_inner : List Str := ["tree"]
theorem sc_law_inner : FnScope N_law_inner P_law_inner (defScope st_law_inner) := ⟨by kernel_rfl, by kernel_rfl, by kernel_rfl, by decide +kernel, by kernel_rfl, by decide +kernel, by decide +kernel⟩
def fs_law_inner : FS :=
  (retS (compF false (itE (slcE false (varF 0) (someI (int! 1)) noF)) (.name 1) (andF (truT (biE isiB (consF (varF 1) (consF (ty! "tuple") nilF)))) (andF (cmpT gtG (biE lenB (consF (varF 1) nilF)) (int! 0)) (truT (biE isiB (consF (idxE (varF 1) (int! 0)) (consF (ty! "str") nilF)))))) (varF 1) ([("part", 1)].map (·.2))))
theorem body_law_inner {P : Program} {w : World} {G : Gr} {base : Heap} {f : Addr} {cdv : Value} {A : Around} {outer : List PySem.Env} {s : Shared} {H : Hp} {E : XK} {k  : Nat}  (b_tuple : G.mg "tuple" = none) (b_isinstance : G.mg "isinstance" = none) (b_len : G.mg "len" = none) (b_str : G.mg "str" = none)  
    (hr : Room k (FX P w G base N_law_inner "_law_inner" st_law_inner f (cdv) A outer s H E).A) : PSs (FX P w G base N_law_inner "_law_inner" st_law_inner f (cdv) A outer s H E) (defBody st_law_inner) (tS G (WEx E) (fs_law_inner )) := by
  exact (ss_one (s_ret (xlc false [("part", 1)] sc_law_inner.nd (ival (xsl false (xv 0) (os xi) on)) (gnameF 1 (fun _ => sc_law_inner.nd)) (fun _ => ts_one (PW.pt (wa (tt (xcB (bf_isi rfl) b_isinstance (xcons (xv 1) (xcons (xty b_tuple) xnil)))) (wa (tcmp ogt bl_gt (xcB (bf_len rfl) b_len (xcons (xv 1) xnil)) xi) (wa1 (tt (xcB (bf_isi rfl) b_isinstance (xcons (xix (xv 1) xi) (xcons (xty b_str) xnil))))))))) (fun _ => (xv 1)))))
abbrev st_law_high : Stmt := top 67
abbrev N_law_high : List Str := ["tree", "part"]
abbrev P_law_high : List Str := ["tree"]
theorem sc_law_high : FnScope N_law_high P_law_high (defScope st_law_high) := ⟨by kernel_rfl, by kernel_rfl, by kernel_rfl, by decide +kernel, by kernel_rfl, by decide +kernel, by decide +kernel⟩
def fs_law_high (c_law_inner c_law_high : Ct) : FS :=
  (retS (binE (addF false) (int! 1) (biE maxB (consF (binE (addF false) (lstE false (consF (int! 0) nilF)) (compF false (itE (callE c_law_inner (consF (varF 0) nilF))) (.name 1) (retF true) (callE c_law_high (consF (varF 1) nilF)) ([("part", 1)].map (·.2)))) nilF))))
theorem body_law_high {P : Program} {w : World} {G : Gr} {base : Heap} {f : Addr} {cdv : Value} {A : Around} {outer : List PySem.Env} {s : Shared} {H : Hp} {E : XK} {k k_law_inner k_law_high : Nat} {c_law_inner c_law_high : Ct} (b_max : G.mg "max" = none) (h_law_inner : Has P w G base "_law_inner" P_law_inner k_law_inner c_law_inner) (s_law_inner : Ct.sized c_law_inner P_law_inner.length) (l_law_inner : k_law_inner ≤ k) (h_law_high : Has P w G base "_law_high" P_law_high k_law_high c_law_high) (s_law_high : Ct.sized c_law_high P_law_high.length) (l_law_high : k_law_high ≤ k) 
    (hr : Room k (FX P w G base N_law_high "_law_high" st_law_high f (cdv) A outer s H E).A) : PSs (FX P w G base N_law_high "_law_high" st_law_high f (cdv) A outer s H E) (defBody st_law_high) (tS G (WEx E) (fs_law_high c_law_inner c_law_high)) := by
  exact (ss_one (s_ret (xbin (oadd false) xi (xcB (bf_max rfl rfl) b_max (xcons (xbin (oadd false) (xlst false (xcons xi xnil)) (xlc false [("part", 1)] sc_law_high.nd (ival (xfn h_law_inner s_law_inner hr (by omega) tkF (xcons (xv 0) xnil))) (gnameF 1 (fun _ => sc_law_high.nd)) (fun _ => ts_nil) (fun _ => (xfn h_law_high s_law_high hr (by omega) LamX.takes0 (xcons (xv 1) xnil))))) xnil)))))
abbrev st_law_parts : Stmt := top 55
abbrev N_law_parts : List Str := ["tree", "found", "part"]
abbrev P_law_parts : List Str := ["tree"]
theorem sc_law_parts : FnScope N_law_parts P_law_parts (defScope st_law_parts) := ⟨by kernel_rfl, by kernel_rfl, by kernel_rfl, by decide +kernel, by kernel_rfl, by decide +kernel, by decide +kernel⟩
def fs_law_parts (c_law_inner c_law_parts : Ct) : FS :=
  (seqS (setS 1 (lstE false (consF (varF 0) nilF)))
    (seqS (forS (itE (callE c_law_inner (consF (varF 0) nilF))) (.name 2) (setS 1 (binE (addF false) (varF 1) (callE c_law_parts (consF (varF 2) nilF)))))
    (retS (varF 1))))
theorem body_law_parts {P : Program} {w : World} {G : Gr} {base : Heap} {f : Addr} {cdv : Value} {A : Around} {outer : List PySem.Env} {s : Shared} {H : Hp} {E : XK} {k k_law_inner k_law_parts : Nat} {c_law_inner c_law_parts : Ct}  (h_law_inner : Has P w G base "_law_inner" P_law_inner k_law_inner c_law_inner) (s_law_inner : Ct.sized c_law_inner P_law_inner.length) (l_law_inner : k_law_inner ≤ k) (h_law_parts : Has P w G base "_law_parts" P_law_parts k_law_parts c_law_parts) (s_law_parts : Ct.sized c_law_parts P_law_parts.length) (l_law_parts : k_law_parts ≤ k) 
    (hr : Room k (FX P w G base N_law_parts "_law_parts" st_law_parts f (cdv) A outer s H E).A) : PSs (FX P w G base N_law_parts "_law_parts" st_law_parts f (cdv) A outer s H E) (defBody st_law_parts) (tS G (WEx E) (fs_law_parts c_law_inner c_law_parts)) := by
  exact (ss_cons (sset 1 sc_law_parts.nd (xlst false (xcons (xv 0) xnil)))
    (ss_cons (sfor poF (ival (xfn h_law_inner s_law_inner hr (by omega) tkF (xcons (xv 0) xnil))) (gname 2 sc_law_parts.nd) (ss_one (sset 1 sc_law_parts.nd (xbin (oadd false) (xv 1) (xfn h_law_parts s_law_parts hr (by omega) tkF (xcons (xv 2) xnil))))))
    (ss_one (s_ret (xv 1)))))
abbrev st_law_fits : Stmt := top 68
abbrev N_law_fits : List Str := ["value", "is_free"]
abbrev P_law_fits : List Str := ["value", "is_free"]
theorem sc_law_fits : FnScope N_law_fits P_law_fits (defScope st_law_fits) := ⟨by kernel_rfl, by kernel_rfl, by kernel_rfl, by decide +kernel, by kernel_rfl, by decide +kernel, by decide +kernel⟩
def fs_law_fits (c_law_is_tree c_law_parts c_law_high : Ct) : FS :=
  (retS (andV (callE c_law_is_tree (consF (varF 0) (consF (varF 1) nilF))) (andV (binE leG (biE lenB (consF (callE c_law_parts (consF (varF 0) nilF)) nilF)) (int! 40)) (binE leG (callE c_law_high (consF (varF 0) nilF)) (int! 12)))))
theorem body_law_fits {P : Program} {w : World} {G : Gr} {base : Heap} {f : Addr} {cdv : Value} {A : Around} {outer : List PySem.Env} {s : Shared} {H : Hp} {E : XK} {k k_law_is_tree k_law_parts k_law_high : Nat} {c_law_is_tree c_law_parts c_law_high : Ct} (b_len : G.mg "len" = none) (h_law_is_tree : Has P w G base "_law_is_tree" P_law_is_tree k_law_is_tree c_law_is_tree) (s_law_is_tree : Ct.sized c_law_is_tree P_law_is_tree.length) (l_law_is_tree : k_law_is_tree ≤ k) (h_law_parts : Has P w G base "_law_parts" P_law_parts k_law_parts c_law_parts) (s_law_parts : Ct.sized c_law_parts P_law_parts.length) (l_law_parts : k_law_parts ≤ k) (h_law_high : Has P w G base "_law_high" P_law_high k_law_high c_law_high) (s_law_high : Ct.sized c_law_high P_law_high.length) (l_law_high : k_law_high ≤ k) 
    (hr : Room k (FX P w G base N_law_fits "_law_fits" st_law_fits f (cdv) A outer s H E).A) : PSs (FX P w G base N_law_fits "_law_fits" st_law_fits f (cdv) A outer s H E) (defBody st_law_fits) (tS G (WEx E) (fs_law_fits c_law_is_tree c_law_parts c_law_high)) := by
  exact (ss_one (s_ret (xand (xfn h_law_is_tree s_law_is_tree hr (by omega) tkF (xcons (xv 0) (xcons (xv 1) xnil))) (xand (xcmp ole (xcB (bf_len rfl) b_len (xcons (xfn h_law_parts s_law_parts hr (by omega) tkF (xcons (xv 0) xnil)) xnil)) xi) (xone (xcmp ole (xfn h_law_high s_law_high hr (by omega) tkF (xcons (xv 0) xnil)) xi))))))
abbrev st_law_right : Stmt := top 69
abbrev N_law_right : List Str := ["value"]
abbrev P_law_right : List Str := ["value"]
theorem sc_law_right : FnScope N_law_right P_law_right (defScope st_law_right) := ⟨by kernel_rfl, by kernel_rfl, by kernel_rfl, by decide +kernel, by kernel_rfl, by decide +kernel, by decide +kernel⟩
def fs_law_right (cis_tree c_law_fits cis_integrand : Ct) : FS :=
  (retS (andV (binE eqG (callE cis_tree (consF (varF 0) nilF)) (callE c_law_fits (consF (varF 0) (consF (bl! false) nilF)))) (binE eqG (callE cis_integrand (consF (varF 0) nilF)) (callE c_law_fits (consF (varF 0) (consF (bl! true) nilF))))))
theorem body_law_right {P : Program} {w : World} {G : Gr} {base : Heap} {f : Addr} {cdv : Value} {A : Around} {outer : List PySem.Env} {s : Shared} {H : Hp} {E : XK} {k kis_tree k_law_fits kis_integrand : Nat} {cis_tree c_law_fits cis_integrand : Ct}  (his_tree : Has P w G base "is_tree" Pis_tree kis_tree cis_tree) (sis_tree : Ct.sized cis_tree Pis_tree.length) (lis_tree : kis_tree ≤ k) (h_law_fits : Has P w G base "_law_fits" P_law_fits k_law_fits c_law_fits) (s_law_fits : Ct.sized c_law_fits P_law_fits.length) (l_law_fits : k_law_fits ≤ k) (his_integrand : Has P w G base "is_integrand" Pis_integrand kis_integrand cis_integrand) (sis_integrand : Ct.sized cis_integrand Pis_integrand.length) (lis_integrand : kis_integrand ≤ k) 
    (hr : Room k (FX P w G base N_law_right "_law_right" st_law_right f (cdv) A outer s H E).A) : PSs (FX P w G base N_law_right "_law_right" st_law_right f (cdv) A outer s H E) (defBody st_law_right) (tS G (WEx E) (fs_law_right cis_tree c_law_fits cis_integrand)) := by
  exact (ss_one (s_ret (xand (xcmp (oeq hr) (xfn his_tree sis_tree hr (by omega) tkF (xcons (xv 0) xnil)) (xfn h_law_fits s_law_fits hr (by omega) tkF (xcons (xv 0) (xcons xb xnil)))) (xone (xcmp (oeq hr) (xfn his_integrand sis_integrand hr (by omega) tkF (xcons (xv 0) xnil)) (xfn h_law_fits s_law_fits hr (by omega) tkF (xcons (xv 0) (xcons xb xnil))))))))
abbrev st_law_tree : Stmt := top 59
abbrev N_law_tree : List Str := ["cup", "deep", "way"]
abbrev P_law_tree : List Str := ["cup", "deep"]
theorem sc_law_tree : FnScope N_law_tree P_law_tree (defScope st_law_tree) := ⟨by kernel_rfl, by kernel_rfl, by kernel_rfl, by decide +kernel, by kernel_rfl, by decide +kernel, by decide +kernel⟩
def fs_law_tree_0 (c_law_some c_law_made c_law_roll : Ct) : FS :=
  (ifS (orF (cmpT eqG (varF 1) (int! 0)) (cmpT ltG (varF 2) (int! 2))) (retS (callE c_law_some (consF (varF 0) (consF (lstE false (consF (tupE (consF (str! "number") (consF (callE c_law_made (consF (binE subF (callE c_law_roll (consF (varF 0) (consF (int! 9) nilF))) (int! 4)) (consF (binE (addF false) (int! 1) (callE c_law_roll (consF (varF 0) (consF (int! 3) nilF)))) nilF))) nilF))) (consF (tupE (consF (str! "pi") nilF)) (consF (tupE (consF (str! "sqrt") (consF (tupE (consF (str! "number") (consF (tupE (consF (binE (addF false) (int! 2) (callE c_law_roll (consF (varF 0) (consF (int! 3) nilF)))) (consF (int! 1) nilF))) nilF))) nilF))) nilF)))) nilF)))) nilS)
def fs_law_tree_1 (c_law_some c_law_tree : Ct) : FS :=
  (ifS (cmpT ltG (varF 2) (int! 5)) (retS (tupE (consF (callE c_law_some (consF (varF 0) (consF (lstE false (consF (str! "sin") (consF (str! "cos") (consF (str! "atan") (consF (str! "minus") (consF (str! "abs") nilF)))))) nilF))) (consF (callE c_law_tree (consF (varF 0) (consF (binE subF (varF 1) (int! 1)) nilF))) nilF)))) nilS)
def fs_law_tree_2 (c_law_some c_law_tree c_law_made c_law_roll : Ct) : FS :=
  (ifS (cmpT eqG (varF 2) (int! 5)) (retS (tupE (consF (str! "exp") (consF (callE c_law_some (consF (varF 0) (consF (lstE false (consF (tupE (consF (str! "sin") (consF (callE c_law_tree (consF (varF 0) (consF (binE subF (varF 1) (int! 1)) nilF))) nilF))) (consF (tupE (consF (str! "number") (consF (callE c_law_made (consF (binE subF (callE c_law_roll (consF (varF 0) (consF (int! 5) nilF))) (int! 2)) (consF (int! 2) nilF))) nilF))) nilF))) nilF))) nilF)))) nilS)
def fs_law_tree_3 (c_law_tree : Ct) : FS :=
  (ifS (cmpT eqG (varF 2) (int! 6)) (retS (tupE (consF (str! "log") (consF (tupE (consF (str! "plus") (consF (tupE (consF (str! "number") (consF (tupE (consF (int! 2) (consF (int! 1) nilF))) nilF))) (consF (tupE (consF (str! "cos") (consF (callE c_law_tree (consF (varF 0) (consF (binE subF (varF 1) (int! 1)) nilF))) nilF))) nilF)))) nilF)))) nilS)
def fs_law_tree_4 (c_law_some c_law_tree : Ct) : FS :=
  (retS (tupE (consF (callE c_law_some (consF (varF 0) (consF (lstE false (consF (str! "plus") (consF (str! "less") (consF (str! "times") nilF)))) nilF))) (consF (callE c_law_tree (consF (varF 0) (consF (binE subF (varF 1) (int! 1)) nilF))) (consF (callE c_law_tree (consF (varF 0) (consF (binE subF (varF 1) (int! 1)) nilF))) nilF)))))
def fs_law_tree (c_law_roll c_law_some c_law_made c_law_tree : Ct) : FS :=
  (seqS (setS 2 (callE c_law_roll (consF (varF 0) (consF (int! 9) nilF))))
    (seqS (fs_law_tree_0 c_law_some c_law_made c_law_roll)
    (seqS (fs_law_tree_1 c_law_some c_law_tree)
    (seqS (fs_law_tree_2 c_law_some c_law_tree c_law_made c_law_roll)
    (seqS (fs_law_tree_3 c_law_tree)
    (fs_law_tree_4 c_law_some c_law_tree))))))
theorem body_law_tree {P : Program} {w : World} {G : Gr} {base : Heap} {f : Addr} {cdv : Value} {A : Around} {outer : List PySem.Env} {s : Shared} {H : Hp} {E : XK} {k k_law_roll k_law_some k_law_made k_law_tree : Nat} {c_law_roll c_law_some c_law_made c_law_tree : Ct}  (h_law_roll : Has P w G base "_law_roll" P_law_roll k_law_roll c_law_roll) (s_law_roll : Ct.sized c_law_roll P_law_roll.length) (l_law_roll : k_law_roll ≤ k) (h_law_some : Has P w G base "_law_some" P_law_some k_law_some c_law_some) (s_law_some : Ct.sized c_law_some P_law_some.length) (l_law_some : k_law_some ≤ k) (h_law_made : Has P w G base "_law_made" P_law_made k_law_made c_law_made) (s_law_made : Ct.sized c_law_made P_law_made.length) (l_law_made : k_law_made ≤ k) (h_law_tree : Has P w G base "_law_tree" P_law_tree k_law_tree c_law_tree) (s_law_tree : Ct.sized c_law_tree P_law_tree.length) (l_law_tree : k_law_tree ≤ k) 
    (hr : Room k (FX P w G base N_law_tree "_law_tree" st_law_tree f (cdv) A outer s H E).A) : PSs (FX P w G base N_law_tree "_law_tree" st_law_tree f (cdv) A outer s H E) (defBody st_law_tree) (tS G (WEx E) (fs_law_tree c_law_roll c_law_some c_law_made c_law_tree)) := by
  exact (ss_cons (sset 2 sc_law_tree.nd (xfn h_law_roll s_law_roll hr (by omega) tkF (xcons (xv 0) (xcons xi xnil))))
    (ss_cons (s_if (PW.pt (wo (tcmp (oeq hr) bl_eq (xv 1) xi) (wo1 (tcmp olt bl_lt (xv 2) xi)))) (ss_one (s_ret (xfn h_law_some s_law_some hr (by omega) tkF (xcons (xv 0) (xcons (xlst false (xcons (xtup (xcons xs (xcons (xfn h_law_made s_law_made hr (by omega) tkF (xcons (xbin osub (xfn h_law_roll s_law_roll hr (by omega) tkF (xcons (xv 0) (xcons xi xnil))) xi) (xcons (xbin (oadd false) xi (xfn h_law_roll s_law_roll hr (by omega) tkF (xcons (xv 0) (xcons xi xnil)))) xnil))) xnil))) (xcons (xtup (xcons xs xnil)) (xcons (xtup (xcons xs (xcons (xtup (xcons xs (xcons (xtup (xcons (xbin (oadd false) xi (xfn h_law_roll s_law_roll hr (by omega) tkF (xcons (xv 0) (xcons xi xnil)))) (xcons xi xnil))) xnil))) xnil))) xnil)))) xnil))))) ss_nil)
    (ss_cons (s_if (tcmp olt bl_lt (xv 2) xi) (ss_one (s_ret (xtup (xcons (xfn h_law_some s_law_some hr (by omega) tkF (xcons (xv 0) (xcons (xlst false (xcons xs (xcons xs (xcons xs (xcons xs (xcons xs xnil)))))) xnil))) (xcons (xfn h_law_tree s_law_tree hr (by omega) tkF (xcons (xv 0) (xcons (xbin osub (xv 1) xi) xnil))) xnil))))) ss_nil)
    (ss_cons (s_if (tcmp (oeq hr) bl_eq (xv 2) xi) (ss_one (s_ret (xtup (xcons xs (xcons (xfn h_law_some s_law_some hr (by omega) tkF (xcons (xv 0) (xcons (xlst false (xcons (xtup (xcons xs (xcons (xfn h_law_tree s_law_tree hr (by omega) tkF (xcons (xv 0) (xcons (xbin osub (xv 1) xi) xnil))) xnil))) (xcons (xtup (xcons xs (xcons (xfn h_law_made s_law_made hr (by omega) tkF (xcons (xbin osub (xfn h_law_roll s_law_roll hr (by omega) tkF (xcons (xv 0) (xcons xi xnil))) xi) (xcons xi xnil))) xnil))) xnil))) xnil))) xnil))))) ss_nil)
    (ss_cons (s_if (tcmp (oeq hr) bl_eq (xv 2) xi) (ss_one (s_ret (xtup (xcons xs (xcons (xtup (xcons xs (xcons (xtup (xcons xs (xcons (xtup (xcons xi (xcons xi xnil))) xnil))) (xcons (xtup (xcons xs (xcons (xfn h_law_tree s_law_tree hr (by omega) tkF (xcons (xv 0) (xcons (xbin osub (xv 1) xi) xnil))) xnil))) xnil)))) xnil))))) ss_nil)
    (ss_one (s_ret (xtup (xcons (xfn h_law_some s_law_some hr (by omega) tkF (xcons (xv 0) (xcons (xlst false (xcons xs (xcons xs (xcons xs xnil)))) xnil))) (xcons (xfn h_law_tree s_law_tree hr (by omega) tkF (xcons (xv 0) (xcons (xbin osub (xv 1) xi) xnil))) (xcons (xfn h_law_tree s_law_tree hr (by omega) tkF (xcons (xv 0) (xcons (xbin osub (xv 1) xi) xnil))) xnil)))))))))))
abbrev st_law_fraction : Stmt := top 56
abbrev N_law_fraction : List Str := ["cup"]
abbrev P_law_fraction : List Str := ["cup"]
theorem sc_law_fraction : FnScope N_law_fraction P_law_fraction (defScope st_law_fraction) := ⟨by kernel_rfl, by kernel_rfl, by kernel_rfl, by decide +kernel, by kernel_rfl, by decide +kernel, by decide +kernel⟩
def fs_law_fraction (c_law_made c_law_roll : Ct) : FS :=
  (retS (callE c_law_made (consF (binE subF (callE c_law_roll (consF (varF 0) (consF (int! 19) nilF))) (int! 9)) (consF (binE (addF false) (int! 1) (callE c_law_roll (consF (varF 0) (consF (int! 5) nilF)))) nilF))))
theorem body_law_fraction {P : Program} {w : World} {G : Gr} {base : Heap} {f : Addr} {cdv : Value} {A : Around} {outer : List PySem.Env} {s : Shared} {H : Hp} {E : XK} {k k_law_made k_law_roll : Nat} {c_law_made c_law_roll : Ct}  (h_law_made : Has P w G base "_law_made" P_law_made k_law_made c_law_made) (s_law_made : Ct.sized c_law_made P_law_made.length) (l_law_made : k_law_made ≤ k) (h_law_roll : Has P w G base "_law_roll" P_law_roll k_law_roll c_law_roll) (s_law_roll : Ct.sized c_law_roll P_law_roll.length) (l_law_roll : k_law_roll ≤ k) 
    (hr : Room k (FX P w G base N_law_fraction "_law_fraction" st_law_fraction f (cdv) A outer s H E).A) : PSs (FX P w G base N_law_fraction "_law_fraction" st_law_fraction f (cdv) A outer s H E) (defBody st_law_fraction) (tS G (WEx E) (fs_law_fraction c_law_made c_law_roll)) := by
  exact (ss_one (s_ret (xfn h_law_made s_law_made hr (by omega) tkF (xcons (xbin osub (xfn h_law_roll s_law_roll hr (by omega) tkF (xcons (xv 0) (xcons xi xnil))) xi) (xcons (xbin (oadd false) xi (xfn h_law_roll s_law_roll hr (by omega) tkF (xcons (xv 0) (xcons xi xnil)))) xnil)))))
abbrev st_law_told_tree : Stmt := top 58
abbrev N_law_told_tree : List Str := ["cup", "deep", "way"]
abbrev P_law_told_tree : List Str := ["cup", "deep"]
theorem sc_law_told_tree : FnScope N_law_told_tree P_law_told_tree (defScope st_law_told_tree) := ⟨by kernel_rfl, by kernel_rfl, by kernel_rfl, by decide +kernel, by kernel_rfl, by decide +kernel, by decide +kernel⟩
def fs_law_told_tree_0 (c_law_fraction : Ct) : FS :=
  (ifS (orF (cmpT eqG (varF 1) (int! 0)) (cmpT eqG (varF 2) (int! 0))) (retS (tupE (consF (str! "number") (consF (callE c_law_fraction (consF (varF 0) nilF)) nilF)))) nilS)
def fs_law_told_tree_1 (c_law_roll : Ct) : FS :=
  (ifS (cmpT eqG (varF 2) (int! 1)) (retS (tupE (consF (str! "sqrt") (consF (tupE (consF (str! "number") (consF (tupE (consF (binE (addF false) (int! 1) (callE c_law_roll (consF (varF 0) (consF (int! 9) nilF)))) (consF (int! 1) nilF))) nilF))) nilF)))) nilS)
def fs_law_told_tree_2 (c_law_roll : Ct) : FS :=
  (ifS (cmpT eqG (varF 2) (int! 2)) (retS (tupE (consF (str! "root") (consF (tupE (consF (binE subF (negE (int! 1)) (callE c_law_roll (consF (varF 0) (consF (int! 5) nilF)))) (consF (int! 0) (consF (int! 0) (consF (int! 1) nilF))))) (consF (int! 0) nilF))))) nilS)
def fs_law_told_tree_3 (c_law_some c_law_told_tree : Ct) : FS :=
  (ifS (cmpT eqG (varF 2) (int! 3)) (retS (tupE (consF (callE c_law_some (consF (varF 0) (consF (lstE false (consF (str! "abs") (consF (str! "minus") nilF))) nilF))) (consF (callE c_law_told_tree (consF (varF 0) (consF (binE subF (varF 1) (int! 1)) nilF))) nilF)))) nilS)
def fs_law_told_tree_4 (c_law_told_tree c_law_roll : Ct) : FS :=
  (ifS (cmpT eqG (varF 2) (int! 4)) (retS (tupE (consF (str! "power") (consF (callE c_law_told_tree (consF (varF 0) (consF (binE subF (varF 1) (int! 1)) nilF))) (consF (callE c_law_roll (consF (varF 0) (consF (int! 4) nilF))) nilF))))) nilS)
def fs_law_told_tree_5 (c_law_told_tree c_law_roll : Ct) : FS :=
  (ifS (cmpT eqG (varF 2) (int! 5)) (retS (tupE (consF (str! "by") (consF (callE c_law_told_tree (consF (varF 0) (consF (binE subF (varF 1) (int! 1)) nilF))) (consF (tupE (consF (str! "number") (consF (tupE (consF (binE (addF false) (int! 1) (callE c_law_roll (consF (varF 0) (consF (int! 4) nilF)))) (consF (int! 1) nilF))) nilF))) nilF))))) nilS)
def fs_law_told_tree_6 (c_law_some c_law_told_tree : Ct) : FS :=
  (retS (tupE (consF (callE c_law_some (consF (varF 0) (consF (lstE false (consF (str! "plus") (consF (str! "less") (consF (str! "times") (consF (str! "least") (consF (str! "most") nilF)))))) nilF))) (consF (callE c_law_told_tree (consF (varF 0) (consF (binE subF (varF 1) (int! 1)) nilF))) (consF (callE c_law_told_tree (consF (varF 0) (consF (binE subF (varF 1) (int! 1)) nilF))) nilF)))))
def fs_law_told_tree (c_law_roll c_law_fraction c_law_told_tree c_law_some : Ct) : FS :=
  (seqS (setS 2 (callE c_law_roll (consF (varF 0) (consF (int! 8) nilF))))
    (seqS (fs_law_told_tree_0 c_law_fraction)
    (seqS (fs_law_told_tree_1 c_law_roll)
    (seqS (fs_law_told_tree_2 c_law_roll)
    (seqS (fs_law_told_tree_3 c_law_some c_law_told_tree)
    (seqS (fs_law_told_tree_4 c_law_told_tree c_law_roll)
    (seqS (fs_law_told_tree_5 c_law_told_tree c_law_roll)
    (fs_law_told_tree_6 c_law_some c_law_told_tree))))))))
theorem body_law_told_tree {P : Program} {w : World} {G : Gr} {base : Heap} {f : Addr} {cdv : Value} {A : Around} {outer : List PySem.Env} {s : Shared} {H : Hp} {E : XK} {k k_law_roll k_law_fraction k_law_told_tree k_law_some : Nat} {c_law_roll c_law_fraction c_law_told_tree c_law_some : Ct}  (h_law_roll : Has P w G base "_law_roll" P_law_roll k_law_roll c_law_roll) (s_law_roll : Ct.sized c_law_roll P_law_roll.length) (l_law_roll : k_law_roll ≤ k) (h_law_fraction : Has P w G base "_law_fraction" P_law_fraction k_law_fraction c_law_fraction) (s_law_fraction : Ct.sized c_law_fraction P_law_fraction.length) (l_law_fraction : k_law_fraction ≤ k) (h_law_told_tree : Has P w G base "_law_told_tree" P_law_told_tree k_law_told_tree c_law_told_tree) (s_law_told_tree : Ct.sized c_law_told_tree P_law_told_tree.length) (l_law_told_tree : k_law_told_tree ≤ k) (h_law_some : Has P w G base "_law_some" P_law_some k_law_some c_law_some) (s_law_some : Ct.sized c_law_some P_law_some.length) (l_law_some : k_law_some ≤ k) 
    (hr : Room k (FX P w G base N_law_told_tree "_law_told_tree" st_law_told_tree f (cdv) A outer s H E).A) : PSs (FX P w G base N_law_told_tree "_law_told_tree" st_law_told_tree f (cdv) A outer s H E) (defBody st_law_told_tree) (tS G (WEx E) (fs_law_told_tree c_law_roll c_law_fraction c_law_told_tree c_law_some)) := by
  exact (ss_cons (sset 2 sc_law_told_tree.nd (xfn h_law_roll s_law_roll hr (by omega) tkF (xcons (xv 0) (xcons xi xnil))))
    (ss_cons (s_if (PW.pt (wo (tcmp (oeq hr) bl_eq (xv 1) xi) (wo1 (tcmp (oeq hr) bl_eq (xv 2) xi)))) (ss_one (s_ret (xtup (xcons xs (xcons (xfn h_law_fraction s_law_fraction hr (by omega) tkF (xcons (xv 0) xnil)) xnil))))) ss_nil)
    (ss_cons (s_if (tcmp (oeq hr) bl_eq (xv 2) xi) (ss_one (s_ret (xtup (xcons xs (xcons (xtup (xcons xs (xcons (xtup (xcons (xbin (oadd false) xi (xfn h_law_roll s_law_roll hr (by omega) tkF (xcons (xv 0) (xcons xi xnil)))) (xcons xi xnil))) xnil))) xnil))))) ss_nil)
    (ss_cons (s_if (tcmp (oeq hr) bl_eq (xv 2) xi) (ss_one (s_ret (xtup (xcons xs (xcons (xtup (xcons (xbin osub (xneg xi) (xfn h_law_roll s_law_roll hr (by omega) tkF (xcons (xv 0) (xcons xi xnil)))) (xcons xi (xcons xi (xcons xi xnil))))) (xcons xi xnil)))))) ss_nil)
    (ss_cons (s_if (tcmp (oeq hr) bl_eq (xv 2) xi) (ss_one (s_ret (xtup (xcons (xfn h_law_some s_law_some hr (by omega) tkF (xcons (xv 0) (xcons (xlst false (xcons xs (xcons xs xnil))) xnil))) (xcons (xfn h_law_told_tree s_law_told_tree hr (by omega) tkF (xcons (xv 0) (xcons (xbin osub (xv 1) xi) xnil))) xnil))))) ss_nil)
    (ss_cons (s_if (tcmp (oeq hr) bl_eq (xv 2) xi) (ss_one (s_ret (xtup (xcons xs (xcons (xfn h_law_told_tree s_law_told_tree hr (by omega) tkF (xcons (xv 0) (xcons (xbin osub (xv 1) xi) xnil))) (xcons (xfn h_law_roll s_law_roll hr (by omega) tkF (xcons (xv 0) (xcons xi xnil))) xnil)))))) ss_nil)
    (ss_cons (s_if (tcmp (oeq hr) bl_eq (xv 2) xi) (ss_one (s_ret (xtup (xcons xs (xcons (xfn h_law_told_tree s_law_told_tree hr (by omega) tkF (xcons (xv 0) (xcons (xbin osub (xv 1) xi) xnil))) (xcons (xtup (xcons xs (xcons (xtup (xcons (xbin (oadd false) xi (xfn h_law_roll s_law_roll hr (by omega) tkF (xcons (xv 0) (xcons xi xnil)))) (xcons xi xnil))) xnil))) xnil)))))) ss_nil)
    (ss_one (s_ret (xtup (xcons (xfn h_law_some s_law_some hr (by omega) tkF (xcons (xv 0) (xcons (xlst false (xcons xs (xcons xs (xcons xs (xcons xs (xcons xs xnil)))))) xnil))) (xcons (xfn h_law_told_tree s_law_told_tree hr (by omega) tkF (xcons (xv 0) (xcons (xbin osub (xv 1) xi) xnil))) (xcons (xfn h_law_told_tree s_law_told_tree hr (by omega) tkF (xcons (xv 0) (xcons (xbin osub (xv 1) xi) xnil))) xnil)))))))))))))
abbrev stsize_of : Stmt := top 40
abbrev Nsize_of : List Str := ["tree"]
abbrev Psize_of : List Str := ["tree"]
theorem scsize_of : FnScope Nsize_of Psize_of (defScope stsize_of) := ⟨by kernel_rfl, by kernel_rfl, by kernel_rfl, by decide +kernel, by kernel_rfl, by decide +kernel, by decide +kernel⟩
def fssize_of (cneed_tree cparts : Ct) : FS :=
  (seqS (exprS (callE cneed_tree (consF (varF 0) nilF)))
    (retS (biE lenB (consF (callE cparts (consF (varF 0) nilF)) nilF))))
theorem bodysize_of {P : Program} {w : World} {G : Gr} {base : Heap} {f : Addr} {cdv : Value} {A : Around} {outer : List PySem.Env} {s : Shared} {H : Hp} {E : XK} {k kneed_tree kparts : Nat} {cneed_tree cparts : Ct} (b_len : G.mg "len" = none) (hneed_tree : Has P w G base "need_tree" Pneed_tree kneed_tree cneed_tree) (sneed_tree : Ct.sized cneed_tree Pneed_tree.length) (lneed_tree : kneed_tree ≤ k) (hparts : Has P w G base "parts" Pparts kparts cparts) (sparts : Ct.sized cparts Pparts.length) (lparts : kparts ≤ k) 
    (hr : Room k (FX P w G base Nsize_of "size_of" stsize_of f (cdv) A outer s H E).A) : PSs (FX P w G base Nsize_of "size_of" stsize_of f (cdv) A outer s H E) (defBody stsize_of) (tS G (WEx E) (fssize_of cneed_tree cparts)) := by
  exact (ss_cons (sexpr (xfn hneed_tree sneed_tree hr (by omega) tkF (xcons (xv 0) xnil)))
    (ss_one (s_ret (xcB (bf_len rfl) b_len (xcons (xfn hparts sparts hr (by omega) tkF (xcons (xv 0) xnil)) xnil)))))
abbrev stsort_at : Stmt := top 41
abbrev Nsort_at : List Str := ["tree", "node"]
abbrev Psort_at : List Str := ["tree", "node"]
theorem scsort_at : FnScope Nsort_at Psort_at (defScope stsort_at) := ⟨by kernel_rfl, by kernel_rfl, by kernel_rfl, by decide +kernel, by kernel_rfl, by decide +kernel, by decide +kernel⟩
def fssort_at (cneed_tree cis_whole cparts : Ct) : FS :=
  (seqS (exprS (callE cneed_tree (consF (varF 0) nilF)))
    (seqS (ifS (notF (truT (callE cis_whole (consF (varF 1) (consF (int! 0) (consF (binE subF (biE lenB (consF (callE cparts (consF (varF 0) nilF)) nilF)) (int! 1)) nilF)))))) (raiseS "InvalidNumber") nilS)
    (retS (idxE (idxE (callE cparts (consF (varF 0) nilF)) (varF 1)) (int! 0)))))
theorem bodysort_at {P : Program} {w : World} {G : Gr} {base : Heap} {f : Addr} {cdv : Value} {A : Around} {outer : List PySem.Env} {s : Shared} {H : Hp} {E : XK} {k kneed_tree kis_whole kparts : Nat} {cneed_tree cis_whole cparts : Ct} (b_len : G.mg "len" = none) (x_InvalidNumber : ExcK G "InvalidNumber") (hneed_tree : Has P w G base "need_tree" Pneed_tree kneed_tree cneed_tree) (sneed_tree : Ct.sized cneed_tree Pneed_tree.length) (lneed_tree : kneed_tree ≤ k) (his_whole : Has P w G base "is_whole" Pis_whole kis_whole cis_whole) (sis_whole : Ct.sized cis_whole Pis_whole.length) (lis_whole : kis_whole ≤ k) (hparts : Has P w G base "parts" Pparts kparts cparts) (sparts : Ct.sized cparts Pparts.length) (lparts : kparts ≤ k) 
    (hr : Room k (FX P w G base Nsort_at "sort_at" stsort_at f (cdv) A outer s H E).A) : PSs (FX P w G base Nsort_at "sort_at" stsort_at f (cdv) A outer s H E) (defBody stsort_at) (tS G (WEx E) (fssort_at cneed_tree cis_whole cparts)) := by
  exact (ss_cons (sexpr (xfn hneed_tree sneed_tree hr (by omega) tkF (xcons (xv 0) xnil)))
    (ss_cons (s_if (tnot (tt (xfn his_whole sis_whole hr (by omega) tkF (xcons (xv 1) (xcons xi (xcons (xbin osub (xcB (bf_len rfl) b_len (xcons (xfn hparts sparts hr (by omega) tkF (xcons (xv 0) xnil)) xnil)) xi) xnil)))))) (ss_one (sraise x_InvalidNumber tkF)) ss_nil)
    (ss_one (s_ret (xix (xix (xfn hparts sparts hr (by omega) tkF (xcons (xv 0) xnil)) (xv 1)) xi)))))
abbrev st_law_spoilt : Stmt := top 61
abbrev N_law_spoilt : List Str := ["cup", "value", "some", "at", "way"]
abbrev P_law_spoilt : List Str := ["cup", "value"]
theorem sc_law_spoilt : FnScope N_law_spoilt P_law_spoilt (defScope st_law_spoilt) := ⟨by kernel_rfl, by kernel_rfl, by kernel_rfl, by decide +kernel, by kernel_rfl, by decide +kernel, by decide +kernel⟩
def fs_law_spoilt (c_law_roll c_law_some c_law_spoilt : Ct) : FS :=
  (seqS (ifS (orF (notF (truT (biE isiB (consF (varF 1) (consF (ty! "tuple") nilF))))) (orF (cmpT eqG (varF 1) (tupE nilF)) (cmpT eqG (callE c_law_roll (consF (varF 0) (consF (int! 6) nilF))) (int! 0)))) (seqS (setS 2 (lstE false (consF non! (consF (tupE nilF) (consF (int! 0) (consF (int! 1) (consF (negE (int! 1)) (consF (int! 7) (consF (int! 13) (consF (binE powG (int! 10) (int! 7)) (consF (bl! true) (consF (str! "") (consF (str! "pi") (consF (str! "sqrt") (consF (str! "number") (consF (tupE (consF (int! 0) (consF (int! 1) nilF))) (consF (tupE (consF (int! 2) (consF (int! 4) nilF))) (consF (tupE (consF (int! 1) (consF (int! 0) nilF))) nilF))))))))))))))))))
    (retS (callE c_law_some (consF (varF 0) (consF (binE (addF false) (varF 2) (lstE false (consF (tupE (consF (str! "pi") nilF)) (consF (tupE (consF (str! "unknown") nilF)) (consF (lstE false (consF (str! "pi") nilF)) (consF (tupE (consF (str! "number") (consF (tupE (consF (int! 1) (consF (int! 2) nilF))) nilF))) (consF (tupE (consF (int! 1) (consF (int! 2) (consF (int! 0) nilF)))) (consF (tupE (consF (int! 0) (consF (int! 0) (consF (int! 1) nilF)))) nilF)))))))) nilF))))) nilS)
    (seqS (parS 3 4 (consF (callE c_law_roll (consF (varF 0) (consF (biE lenB (consF (varF 1) nilF)) nilF))) (consF (callE c_law_roll (consF (varF 0) (consF (int! 9) nilF))) nilF)))
    (seqS (ifS (cmpT ltG (varF 4) (int! 2)) (retS (binE (addF false) (binE (addF false) (slcE false (varF 1) noF (someI (varF 3))) (slcE false (varF 1) (someI (binE (addF false) (varF 3) (varF 4))) noF)) (iteV (cmpT eqG (varF 4) (int! 0)) (slcE false (varF 1) (someI (varF 3)) (someI (binE (addF false) (varF 3) (int! 1)))) (tupE nilF)))) nilS)
    (retS (iteV (cmpT eqG (varF 4) (int! 2)) (biE (lstB false) (consF (varF 1) nilF)) (binE (addF false) (binE (addF false) (slcE false (varF 1) noF (someI (varF 3))) (tupE (consF (callE c_law_spoilt (consF (varF 0) (consF (idxE (varF 1) (varF 3)) nilF))) nilF))) (slcE false (varF 1) (someI (binE (addF false) (varF 3) (int! 1))) noF)))))))
theorem body_law_spoilt {P : Program} {w : World} {G : Gr} {base : Heap} {f : Addr} {cdv : Value} {A : Around} {outer : List PySem.Env} {s : Shared} {H : Hp} {E : XK} {k k_law_roll k_law_some k_law_spoilt : Nat} {c_law_roll c_law_some c_law_spoilt : Ct} (b_tuple : G.mg "tuple" = none) (b_isinstance : G.mg "isinstance" = none) (b_len : G.mg "len" = none) (b_list : G.mg "list" = none) (h_law_roll : Has P w G base "_law_roll" P_law_roll k_law_roll c_law_roll) (s_law_roll : Ct.sized c_law_roll P_law_roll.length) (l_law_roll : k_law_roll ≤ k) (h_law_some : Has P w G base "_law_some" P_law_some k_law_some c_law_some) (s_law_some : Ct.sized c_law_some P_law_some.length) (l_law_some : k_law_some ≤ k) (h_law_spoilt : Has P w G base "_law_spoilt" P_law_spoilt k_law_spoilt c_law_spoilt) (s_law_spoilt : Ct.sized c_law_spoilt P_law_spoilt.length) (l_law_spoilt : k_law_spoilt ≤ k) 
    (hr : Room k (FX P w G base N_law_spoilt "_law_spoilt" st_law_spoilt f (cdv) A outer s H E).A) : PSs (FX P w G base N_law_spoilt "_law_spoilt" st_law_spoilt f (cdv) A outer s H E) (defBody st_law_spoilt) (tS G (WEx E) (fs_law_spoilt c_law_roll c_law_some c_law_spoilt)) := by
  exact (ss_cons (s_if (PW.pt (wo (tnot (tt (xcB (bf_isi rfl) b_isinstance (xcons (xv 1) (xcons (xty b_tuple) xnil))))) (wo (tcmp (oeq hr) bl_eq (xv 1) (xtup xnil)) (wo1 (tcmp (oeq hr) bl_eq (xfn h_law_roll s_law_roll hr (by omega) tkF (xcons (xv 0) (xcons xi xnil))) xi))))) (ss_cons (sset 2 sc_law_spoilt.nd (xlst false (xcons xn (xcons (xtup xnil) (xcons xi (xcons xi (xcons (xneg xi) (xcons xi (xcons xi (xcons (xbin opow xi xi) (xcons xb (xcons xs (xcons xs (xcons xs (xcons xs (xcons (xtup (xcons xi (xcons xi xnil))) (xcons (xtup (xcons xi (xcons xi xnil))) (xcons (xtup (xcons xi (xcons xi xnil))) xnil))))))))))))))))))
    (ss_one (s_ret (xfn h_law_some s_law_some hr (by omega) tkF (xcons (xv 0) (xcons (xbin (oadd false) (xv 2) (xlst false (xcons (xtup (xcons xs xnil)) (xcons (xtup (xcons xs xnil)) (xcons (xlst false (xcons xs xnil)) (xcons (xtup (xcons xs (xcons (xtup (xcons xi (xcons xi xnil))) xnil))) (xcons (xtup (xcons xi (xcons xi (xcons xi xnil)))) (xcons (xtup (xcons xi (xcons xi (xcons xi xnil)))) xnil)))))))) xnil)))))) ss_nil)
    (ss_cons (spar 3 4 sc_law_spoilt.nd (xcons (xfn h_law_roll s_law_roll hr (by omega) tkF (xcons (xv 0) (xcons (xcB (bf_len rfl) b_len (xcons (xv 1) xnil)) xnil))) (xcons (xfn h_law_roll s_law_roll hr (by omega) tkF (xcons (xv 0) (xcons xi xnil))) xnil)))
    (ss_cons (s_if (tcmp olt bl_lt (xv 4) xi) (ss_one (s_ret (xbin (oadd false) (xbin (oadd false) (xsl false (xv 1) on (os (xv 3))) (xsl false (xv 1) (os (xbin (oadd false) (xv 3) (xv 4))) on)) (xife (tcmp (oeq hr) bl_eq (xv 4) xi) (xsl false (xv 1) (os (xv 3)) (os (xbin (oadd false) (xv 3) xi))) (xtup xnil))))) ss_nil)
    (ss_one (s_ret (xife (tcmp (oeq hr) bl_eq (xv 4) xi) (xcT (bf_lst rfl false) b_list (xcons (xv 1) xnil)) (xbin (oadd false) (xbin (oadd false) (xsl false (xv 1) on (os (xv 3))) (xtup (xcons (xfn h_law_spoilt s_law_spoilt hr (by omega) tkF (xcons (xv 0) (xcons (xix (xv 1) (xv 3)) xnil))) xnil))) (xsl false (xv 1) (os (xbin (oadd false) (xv 3) xi)) on))))))))
abbrev stlaw : Stmt := top 71
abbrev Nlaw : List Str := ["script", "cup", "turn", "tree", "words", "strange", "at", "near", "a", "chain", "wide", "shared", "rows", "full", "one", "part", "word", "row", "odd"]
abbrev Plaw : List Str := ["script"]
theorem sclaw : FnScope Nlaw Plaw (defScope stlaw) := ⟨by kernel_rfl, by kernel_rfl, by kernel_rfl, by decide +kernel, by kernel_rfl, by decide +kernel, by decide +kernel⟩
def fslaw_0 : FS :=
  (setS 5 (compF false (itE (varF 4)) (.name 16) (cmpT inG (varF 16) (lstE false (consF (str! "area") (consF (str! "atan") (consF (str! "cos") (consF (str! "exp") (consF (str! "log") (consF (str! "pi") (consF (str! "sin") nilF))))))))) (varF 16) ([("word", 16)].map (·.2))))
def fslaw_1 (cis_algebraic csize_of csort_at : Ct) : FS :=
  (ifS (orF (cmpT neG (callE cis_algebraic (consF (varF 3) nilF)) (binE eqG (varF 5) (lstE false nilF))) (orF (cmpT neG (callE csize_of (consF (varF 3) nilF)) (biE lenB (consF (varF 4) nilF))) (cmpT neG (callE csort_at (consF (varF 3) (consF (varF 6) nilF))) (idxE (varF 4) (varF 6))))) (retS (bl! false)) nilS)
def fslaw_2 (csort_at : Ct) : FS :=
  (ifS (cmpT neG (lamF w_law_error "" (callE csort_at (consF (varF 3) (consF (biE lenB (consF (varF 4) nilF)) nilF)))) (str! "number")) (retS (bl! false)) nilS)
def fslaw_3 (c_law_some c_law_tree c_law_told_tree : Ct) : FS :=
  (setS 3 (callE c_law_some (consF (varF 1) (consF (lstE false (consF (callE c_law_tree (consF (varF 1) (consF (int! 3) nilF))) (consF (callE c_law_told_tree (consF (varF 1) (consF (int! 3) nilF))) nilF))) nilF))))
def fslaw_4 (c_law_roll c_law_fraction : Ct) : FS :=
  (ifS (cmpT eqG (callE c_law_roll (consF (varF 1) (consF (int! 4) nilF))) (int! 0)) (setS 3 (tupE (consF (str! "area") (consF (tupE (consF (str! "times") (consF (tupE (consF (str! "unknown") nilF)) (consF (tupE (consF (str! "exp") (consF (tupE (consF (str! "unknown") nilF)) nilF))) nilF)))) (consF (tupE (consF (int! 0) (consF (int! 1) nilF))) (consF (callE c_law_fraction (consF (varF 1) nilF)) nilF)))))) nilS)
def fslaw_5 (cis_tree c_law_parts c_law_roll cis_algebraic csize_of csort_at : Ct) : FS :=
  (ifS (truT (callE cis_tree (consF (varF 3) nilF))) (seqS (setS 4 (compF false (itE (callE c_law_parts (consF (varF 3) nilF))) (.name 15) (retF true) (idxE (varF 15) (int! 0)) ([("part", 15)].map (·.2))))
    (seqS fslaw_0
    (seqS (setS 6 (callE c_law_roll (consF (varF 1) (consF (biE lenB (consF (varF 4) nilF)) nilF))))
    (seqS (fslaw_1 cis_algebraic csize_of csort_at)
    (fslaw_2 csort_at))))) nilS)
def fslaw_6 (c_law_right c_law_spoilt : Ct) : FS :=
  (forS (bindF (consF (int! 4) nilF) rng1) (.name 7) (ifS (notF (truT (callE c_law_right (consF (callE c_law_spoilt (consF (varF 1) (consF (varF 3) nilF))) nilF)))) (retS (bl! false)) nilS))
def fslaw_7 (c_law_some c_law_tree c_law_told_tree c_law_roll c_law_fraction c_law_right cis_tree c_law_parts cis_algebraic csize_of csort_at c_law_spoilt : Ct) : FS :=
  (forS (bindF (consF (int! 3) nilF) rng1) (.name 2) (seqS (fslaw_3 c_law_some c_law_tree c_law_told_tree)
    (seqS (fslaw_4 c_law_roll c_law_fraction)
    (seqS (ifS (notF (truT (callE c_law_right (consF (varF 3) nilF)))) (retS (bl! false)) nilS)
    (seqS (fslaw_5 cis_tree c_law_parts c_law_roll cis_algebraic csize_of csort_at)
    (fslaw_6 c_law_right c_law_spoilt))))))
def fslaw_8 : FS :=
  (asgS (.tup [(.name 8), (.name 9), (.name 10), (.name 11)]) (tupE (consF (tupE (consF (str! "number") (consF (tupE (consF (int! 1) (consF (int! 2) nilF))) nilF))) (consF (tupE (consF (str! "pi") nilF)) (consF (tupE (consF (str! "pi") nilF)) (consF (tupE (consF (str! "pi") nilF)) nilF))))))
def fslaw_9 : FS :=
  (forS (bindF (consF (int! 5) nilF) rng1) (.name 2) (setS 10 (iteV (cmpT ltG (varF 2) (int! 4)) (tupE (consF (str! "plus") (consF (varF 10) (consF (varF 10) nilF)))) (tupE (consF (str! "plus") (consF (varF 10) (consF (tupE (consF (str! "minus") (consF (varF 8) nilF))) nilF)))))))
def fslaw_10 : FS :=
  (setS 12 (lstE false (consF (tupE (consF (varF 8) (consF (bl! true) nilF))) (consF (tupE (consF (varF 9) (consF (bl! true) nilF))) (consF (tupE (consF (tupE (consF (str! "abs") (consF (varF 9) nilF))) (consF (bl! false) nilF))) (consF (tupE (consF (varF 10) (consF (bl! true) nilF))) (consF (tupE (consF (tupE (consF (str! "plus") (consF (varF 10) (consF (varF 10) nilF)))) (consF (bl! false) nilF))) (consF (tupE (consF (varF 11) (consF (bl! false) nilF))) (consF (tupE (consF (tupE (consF (str! "number") (consF (tupE (consF (int! 2) (consF (int! 4) nilF))) nilF))) (consF (bl! false) nilF))) nilF)))))))))
def fslaw_11 : FS :=
  (setS 12 (binE (addF false) (varF 12) (lstE false (consF (tupE (consF (tupE (consF (str! "root") (consF (tupE (consF (int! 1) nilF)) (consF (int! 0) nilF)))) (consF (bl! false) nilF))) (consF (tupE (consF (tupE (consF (str! "root") (consF (tupE (consF (int! 0) (consF (int! 1) nilF))) (consF (int! 7) nilF)))) (consF (bl! true) nilF))) (consF (tupE (consF (tupE (consF (str! "root") (consF (tupE (consF (int! 0) (consF (int! 1) nilF))) (consF (int! 8) nilF)))) (consF (bl! false) nilF))) (consF (tupE (consF (tupE (consF (str! "power") (consF (varF 8) (consF (int! 12) nilF)))) (consF (bl! true) nilF))) (consF (tupE (consF (tupE (consF (str! "power") (consF (varF 8) (consF (int! 13) nilF)))) (consF (bl! false) nilF))) nilF))))))))
def fslaw_12 : FS :=
  (setS 12 (binE (addF true) (varF 12) (lstE false (consF (tupE (consF (tupE (consF (str! "area") (consF (tupE (consF (str! "unknown") nilF)) (consF (tupE (consF (negE (int! 8)) (consF (int! 1) nilF))) (consF (tupE (consF (int! 8) (consF (int! 1) nilF))) nilF))))) (consF (bl! true) nilF))) (consF (tupE (consF (tupE (consF (str! "area") (consF (tupE (consF (str! "unknown") nilF)) (consF (tupE (consF (int! 0) (consF (int! 1) nilF))) (consF (tupE (consF (int! 17) (consF (int! 2) nilF))) nilF))))) (consF (bl! false) nilF))) nilF)))))
def fslaw_13 : FS :=
  (exprS (appE (varF 12) (tupE (consF (tupE (consF (str! "area") (consF (tupE (consF (str! "area") (consF (tupE (consF (str! "pi") nilF)) (consF (tupE (consF (int! 0) (consF (int! 1) nilF))) (consF (tupE (consF (int! 1) (consF (int! 1) nilF))) nilF))))) (consF (tupE (consF (int! 0) (consF (int! 1) nilF))) (consF (tupE (consF (int! 1) (consF (int! 1) nilF))) nilF))))) (consF (bl! false) nilF)))))
def fslaw_14 : FS :=
  (exprS (appE (varF 12) (tupE (consF (tupE (consF (str! "area") (consF (tupE (consF (str! "sqrt") (consF (tupE (consF (str! "unknown") nilF)) nilF))) (consF (tupE (consF (int! 0) (consF (int! 1) nilF))) (consF (tupE (consF (int! 1) (consF (int! 1) nilF))) nilF))))) (consF (bl! false) nilF)))))
def fslaw_15 : FS :=
  (setS 12 (binE (addF false) (varF 12) (lstE false (consF (tupE (consF (tupE (consF (str! "unknown") nilF)) (consF (bl! false) nilF))) (consF (tupE (consF (tupE (consF (str! "pi") (consF (int! 1) nilF))) (consF (bl! false) nilF))) (consF (tupE (consF (str! "pi") (consF (bl! false) nilF))) (consF (tupE (consF non! (consF (bl! false) nilF))) (consF (tupE (consF (tupE (consF (str! "sqrt") (consF (varF 8) (consF (varF 8) nilF)))) (consF (bl! false) nilF))) (consF (tupE (consF (tupE (consF (str! "by") (consF (varF 8) nilF))) (consF (bl! false) nilF))) nilF)))))))))
def fslaw_16 : FS :=
  (setS 13 (tupE (consF (str! "times") (consF (varF 13) (consF (tupE (consF (str! "plus") (consF (tupE (consF (str! "minus") (consF (varF 14) nilF))) (consF (tupE (consF (str! "plus") (consF (tupE (consF (str! "minus") (consF (varF 14) nilF))) (consF (tupE (consF (str! "minus") (consF (varF 14) nilF))) nilF)))) nilF)))) nilF)))))
def fslaw_17 : FS :=
  (setS 12 (binE (addF false) (varF 12) (lstE false (consF (tupE (consF (varF 13) (consF (bl! true) nilF))) (consF (tupE (consF (tupE (consF (str! "minus") (consF (varF 13) nilF))) (consF (bl! false) nilF))) (consF (tupE (consF (tupE (consF (str! "plus") (consF (varF 13) (consF (varF 14) nilF)))) (consF (bl! false) nilF))) (consF (tupE (consF (tupE (consF (str! "root") (consF (binE (addF false) (binE (mulF false) (tupE (consF (int! 0) nilF)) (int! 8)) (tupE (consF (int! 1) nilF))) (consF (int! 7) nilF)))) (consF (bl! true) nilF))) (consF (tupE (consF (tupE (consF (str! "number") (consF (tupE (consF (binE powG (int! 10) (int! 12)) (consF (int! 1) nilF))) nilF))) (consF (bl! true) nilF))) nilF))))))))
def fslaw_18 : FS :=
  (setS 12 (binE (addF false) (varF 12) (lstE false (consF (tupE (consF (tupE (consF (str! "number") (consF (tupE (consF (binE (addF false) (binE powG (int! 10) (int! 12)) (int! 1)) (consF (int! 1) nilF))) nilF))) (consF (bl! false) nilF))) (consF (tupE (consF (tupE (consF (str! "number") (consF (tupE (consF (int! 1) (consF (binE powG (int! 10) (int! 12)) nilF))) nilF))) (consF (bl! true) nilF))) (consF (tupE (consF (tupE (consF (str! "power") (consF (varF 8) (consF (int! 0) nilF)))) (consF (bl! true) nilF))) (consF (tupE (consF (tupE (consF (str! "root") (consF (tupE (consF (int! 1) (consF (int! 1) nilF))) (consF (negE (int! 1)) nilF)))) (consF (bl! false) nilF))) nilF)))))))
def fslaw_19 (cis_tree cis_integrand : Ct) : FS :=
  (ifS (orF (cmpT neG (compF false (itE (varF 12)) (.name 17) (cmpT neG (callE cis_tree (consF (idxE (varF 17) (int! 0)) nilF)) (idxE (varF 17) (int! 1))) (varF 17) ([("row", 17)].map (·.2))) (lstE false nilF)) (cmpT isnG (callE cis_integrand (consF (tupE (consF (str! "area") (consF (tupE (consF (str! "pi") nilF)) (consF (tupE (consF (int! 0) (consF (int! 1) nilF))) (consF (tupE (consF (int! 1) (consF (int! 1) nilF))) nilF))))) nilF)) (bl! false))) (retS (bl! false)) nilS)
def fslaw_20 (csize_of : Ct) : FS :=
  (setS 4 (compF true (itE (tupE (consF non! (consF (tupE (consF (str! "unknown") nilF)) (consF (varF 11) nilF))))) (.name 18) (retF true) (lamF w_law_error "" (callE csize_of (consF (varF 18) nilF))) ([("odd", 18)].map (·.2))))
def fslaw_21 (csort_at : Ct) : FS :=
  (retS (andV (binE eqG (varF 4) (binE (mulF false) (lstE false (consF (str! "tree") nilF)) (int! 5))) (binE eqG (lamF w_law_error "" (callE csort_at (consF (varF 8) (consF (negE (int! 1)) nilF)))) (str! "number"))))
def fslaw (c_law_cup c_law_some c_law_told_tree c_law_tree c_law_roll c_law_fraction c_law_right cis_tree c_law_parts cis_algebraic csize_of csort_at c_law_spoilt c_law_integrands_right cis_integrand : Ct) : FS :=
  (seqS (setS 1 (callE c_law_cup (consF (varF 0) nilF)))
    (seqS (fslaw_7 c_law_some c_law_tree c_law_told_tree c_law_roll c_law_fraction c_law_right cis_tree c_law_parts cis_algebraic csize_of csort_at c_law_spoilt)
    (seqS fslaw_8
    (seqS (forS (bindF (consF (int! 11) nilF) rng1) (.name 2) (setS 9 (tupE (consF (str! "minus") (consF (varF 9) nilF)))))
    (seqS fslaw_9
    (seqS (forS (bindF (consF (int! 11) nilF) rng1) (.name 2) (setS 11 (tupE (consF (str! "plus") (consF (varF 11) (consF (varF 11) nilF))))))
    (seqS fslaw_10
    (seqS fslaw_11
    (seqS fslaw_12
    (seqS fslaw_13
    (seqS fslaw_14
    (seqS fslaw_15
    (seqS (asgS (.tup [(.name 13), (.name 14)]) (tupE (consF (tupE (consF (str! "pi") nilF)) (consF (tupE (consF (str! "pi") nilF)) nilF))))
    (seqS (forS (bindF (consF (int! 4) nilF) rng1) (.name 2) (setS 13 (tupE (consF (str! "plus") (consF (varF 13) (consF (varF 13) nilF))))))
    (seqS fslaw_16
    (seqS fslaw_17
    (seqS fslaw_18
    (seqS (ifS (notF (truT (callC c_law_integrands_right []))) (retS (bl! false)) nilS)
    (seqS (fslaw_19 cis_tree cis_integrand)
    (seqS (fslaw_20 csize_of)
    (seqS (exprS (appE (varF 4) (lamF w_law_error "" (callE cis_algebraic (consF (tupE (consF (str! "pi") (consF (int! 0) nilF))) nilF)))))
    (seqS (exprS (appE (varF 4) (lamF w_law_error "" (callE csort_at (consF non! (consF non! nilF))))))
    (fslaw_21 csort_at)))))))))))))))))))))))
theorem bodylaw {P : Program} {w : World} {G : Gr} {base : Heap} {f : Addr} {cc PT : Addr} {A : Around} {outer : List PySem.Env} {s : Shared} {H : Hp} {E : XK} {k k_law_cup k_law_some k_law_told_tree k_law_tree k_law_roll k_law_fraction k_law_right kis_tree k_law_parts kis_algebraic ksize_of ksort_at k_law_spoilt k_law_integrands_right kis_integrand : Nat} {c_law_cup c_law_some c_law_told_tree c_law_tree c_law_roll c_law_fraction c_law_right cis_tree c_law_parts cis_algebraic csize_of csort_at c_law_spoilt c_law_integrands_right cis_integrand : Ct} (b_range : G.mg "range" = none) (b_len : G.mg "len" = none) (T_law_error : Teller G "_law_error" st_law_error w_law_error hs_law_error) (TB : LamX.TabB base G.mg cc PT) (hmT : (PT, ("law" : Str) ++ ".<locals>." ++ "<lambda>") ∈ G.T) (hu : ∀ p ∈ G.T, p.1 = PT → p.2 = ("law" : Str) ++ ".<locals>." ++ "<lambda>") (h_law_cup : Has P w G base "_law_cup" P_law_cup k_law_cup c_law_cup) (s_law_cup : Ct.sized c_law_cup P_law_cup.length) (l_law_cup : k_law_cup + 2 ≤ k) (h_law_some : Has P w G base "_law_some" P_law_some k_law_some c_law_some) (s_law_some : Ct.sized c_law_some P_law_some.length) (l_law_some : k_law_some + 2 ≤ k) (h_law_told_tree : Has P w G base "_law_told_tree" P_law_told_tree k_law_told_tree c_law_told_tree) (s_law_told_tree : Ct.sized c_law_told_tree P_law_told_tree.length) (l_law_told_tree : k_law_told_tree + 2 ≤ k) (h_law_tree : Has P w G base "_law_tree" P_law_tree k_law_tree c_law_tree) (s_law_tree : Ct.sized c_law_tree P_law_tree.length) (l_law_tree : k_law_tree + 2 ≤ k) (h_law_roll : Has P w G base "_law_roll" P_law_roll k_law_roll c_law_roll) (s_law_roll : Ct.sized c_law_roll P_law_roll.length) (l_law_roll : k_law_roll + 2 ≤ k) (h_law_fraction : Has P w G base "_law_fraction" P_law_fraction k_law_fraction c_law_fraction) (s_law_fraction : Ct.sized c_law_fraction P_law_fraction.length) (l_law_fraction : k_law_fraction + 2 ≤ k) (h_law_right : Has P w G base "_law_right" P_law_right k_law_right c_law_right) (s_law_right : Ct.sized c_law_right P_law_right.length) (l_law_right : k_law_right + 2 ≤ k) (his_tree : Has P w G base "is_tree" Pis_tree kis_tree cis_tree) (sis_tree : Ct.sized cis_tree Pis_tree.length) (lis_tree : kis_tree + 2 ≤ k) (h_law_parts : Has P w G base "_law_parts" P_law_parts k_law_parts c_law_parts) (s_law_parts : Ct.sized c_law_parts P_law_parts.length) (l_law_parts : k_law_parts + 2 ≤ k) (his_algebraic : Has P w G base "is_algebraic" Pis_algebraic kis_algebraic cis_algebraic) (sis_algebraic : Ct.sized cis_algebraic Pis_algebraic.length) (lis_algebraic : kis_algebraic + 2 ≤ k) (hsize_of : Has P w G base "size_of" Psize_of ksize_of csize_of) (ssize_of : Ct.sized csize_of Psize_of.length) (lsize_of : ksize_of + 2 ≤ k) (hsort_at : Has P w G base "sort_at" Psort_at ksort_at csort_at) (ssort_at : Ct.sized csort_at Psort_at.length) (lsort_at : ksort_at + 2 ≤ k) (h_law_spoilt : Has P w G base "_law_spoilt" P_law_spoilt k_law_spoilt c_law_spoilt) (s_law_spoilt : Ct.sized c_law_spoilt P_law_spoilt.length) (l_law_spoilt : k_law_spoilt + 2 ≤ k) (h_law_integrands_right : Has P w G base "_law_integrands_right" P_law_integrands_right k_law_integrands_right c_law_integrands_right) (s_law_integrands_right : Ct.sized c_law_integrands_right P_law_integrands_right.length) (l_law_integrands_right : k_law_integrands_right + 2 ≤ k) (his_integrand : Has P w G base "is_integrand" Pis_integrand kis_integrand cis_integrand) (sis_integrand : Ct.sized cis_integrand Pis_integrand.length) (lis_integrand : kis_integrand + 2 ≤ k) (hk2 : 2 ≤ k) 
    (hr : Room k (FX P w G base Nlaw "law" stlaw f (.ref cc) A outer s H E).A) : PSs (FX P w G base Nlaw "law" stlaw f (.ref cc) A outer s H E) (defBody stlaw) (tS G (WEx E) (fslaw c_law_cup c_law_some c_law_told_tree c_law_tree c_law_roll c_law_fraction c_law_right cis_tree c_law_parts cis_algebraic csize_of csort_at c_law_spoilt c_law_integrands_right cis_integrand)) := by
  exact (ss_cons (sset 1 sclaw.nd (xfn h_law_cup s_law_cup hr (by omega) tkF (xcons (xv 0) xnil)))
    (ss_cons (sfor poF (irng1 b_range (xcons xi xnil)) (gname 2 sclaw.nd) (ss_cons (sset 3 sclaw.nd (xfn h_law_some s_law_some hr (by omega) tkF (xcons (xv 1) (xcons (xlst false (xcons (xfn h_law_tree s_law_tree hr (by omega) tkF (xcons (xv 1) (xcons xi xnil))) (xcons (xfn h_law_told_tree s_law_told_tree hr (by omega) tkF (xcons (xv 1) (xcons xi xnil))) xnil))) xnil))))
    (ss_cons (s_if (tcmp (oeq hr) bl_eq (xfn h_law_roll s_law_roll hr (by omega) tkF (xcons (xv 1) (xcons xi xnil))) xi) (ss_one (sset 3 sclaw.nd (xtup (xcons xs (xcons (xtup (xcons xs (xcons (xtup (xcons xs xnil)) (xcons (xtup (xcons xs (xcons (xtup (xcons xs xnil)) xnil))) xnil)))) (xcons (xtup (xcons xi (xcons xi xnil))) (xcons (xfn h_law_fraction s_law_fraction hr (by omega) tkF (xcons (xv 1) xnil)) xnil))))))) ss_nil)
    (ss_cons (s_if (tnot (tt (xfn h_law_right s_law_right hr (by omega) tkF (xcons (xv 3) xnil)))) (ss_one (s_ret xb)) ss_nil)
    (ss_cons (s_if (tt (xfn his_tree sis_tree hr (by omega) tkF (xcons (xv 3) xnil))) (ss_cons (sset 4 sclaw.nd (xlc false [("part", 15)] sclaw.nd (ival (xfn h_law_parts s_law_parts hr (by omega) tkF (xcons (xv 3) xnil))) (gnameF 15 (fun _ => sclaw.nd)) (fun _ => ts_nil) (fun _ => (xix (xv 15) xi))))
    (ss_cons (ssetlc 5 false [("word", 16)] sclaw.nd (ival (xv 4)) (gnameF 16 (fun _ => sclaw.nd)) (fun _ => ts_one (tcmp (oin hr) bl_in (xv 16) (xlst false (xcons xs (xcons xs (xcons xs (xcons xs (xcons xs (xcons xs (xcons xs xnil)))))))))) (fun _ => (xv 16)))
    (ss_cons (sset 6 sclaw.nd (xfn h_law_roll s_law_roll hr (by omega) tkF (xcons (xv 1) (xcons (xcB (bf_len rfl) b_len (xcons (xv 4) xnil)) xnil))))
    (ss_cons (s_if (PW.pt (wo (tcmp (one' hr) bl_ne (xfn his_algebraic sis_algebraic hr (by omega) tkF (xcons (xv 3) xnil)) (xcmp (oeq hr) (xv 5) (xlst false xnil))) (wo (tcmp (one' hr) bl_ne (xfn hsize_of ssize_of hr (by omega) tkF (xcons (xv 3) xnil)) (xcB (bf_len rfl) b_len (xcons (xv 4) xnil))) (wo1 (tcmp (one' hr) bl_ne (xfn hsort_at ssort_at hr (by omega) tkF (xcons (xv 3) (xcons (xv 6) xnil))) (xix (xv 4) (xv 6))))))) (ss_one (s_ret xb)) ss_nil)
    (ss_one (s_if (tcmp (one' hr) bl_ne (xlam T_law_error sc_law_error (fun _ => tell_law_error T_law_error.cls) TB hmT hu hr (by omega) (fun _ _ _ _ _ _ _ hrL => (xfn hsort_at ssort_at hrL (by omega) tkL (xcons (xv 3) (xcons (xcB (bf_len rfl) b_len (xcons (xv 4) xnil)) xnil))))) xs) (ss_one (s_ret xb)) ss_nil)))))) ss_nil)
    (ss_one (sfor poF (irng1 b_range (xcons xi xnil)) (gname 7 sclaw.nd) (ss_one (s_if (tnot (tt (xfn h_law_right s_law_right hr (by omega) tkF (xcons (xfn h_law_spoilt s_law_spoilt hr (by omega) tkF (xcons (xv 1) (xcons (xv 3) xnil))) xnil)))) (ss_one (s_ret xb)) ss_nil)))))))))
    (ss_cons (sasg (xtup (xcons (xtup (xcons xs (xcons (xtup (xcons xi (xcons xi xnil))) xnil))) (xcons (xtup (xcons xs xnil)) (xcons (xtup (xcons xs xnil)) (xcons (xtup (xcons xs xnil)) xnil))))) (gtup (gcons (gname 8 sclaw.nd) (gcons (gname 9 sclaw.nd) (gcons (gname 10 sclaw.nd) (gcons (gname 11 sclaw.nd) gs_nil))))))
    (ss_cons (sfor poF (irng1 b_range (xcons xi xnil)) (gname 2 sclaw.nd) (ss_one (sset 9 sclaw.nd (xtup (xcons xs (xcons (xv 9) xnil))))))
    (ss_cons (sfor poF (irng1 b_range (xcons xi xnil)) (gname 2 sclaw.nd) (ss_one (sset 10 sclaw.nd (xife (tcmp olt bl_lt (xv 2) xi) (xtup (xcons xs (xcons (xv 10) (xcons (xv 10) xnil)))) (xtup (xcons xs (xcons (xv 10) (xcons (xtup (xcons xs (xcons (xv 8) xnil))) xnil))))))))
    (ss_cons (sfor poF (irng1 b_range (xcons xi xnil)) (gname 2 sclaw.nd) (ss_one (sset 11 sclaw.nd (xtup (xcons xs (xcons (xv 11) (xcons (xv 11) xnil)))))))
    (ss_cons (sset 12 sclaw.nd (xlst false (xcons (xtup (xcons (xv 8) (xcons xb xnil))) (xcons (xtup (xcons (xv 9) (xcons xb xnil))) (xcons (xtup (xcons (xtup (xcons xs (xcons (xv 9) xnil))) (xcons xb xnil))) (xcons (xtup (xcons (xv 10) (xcons xb xnil))) (xcons (xtup (xcons (xtup (xcons xs (xcons (xv 10) (xcons (xv 10) xnil)))) (xcons xb xnil))) (xcons (xtup (xcons (xv 11) (xcons xb xnil))) (xcons (xtup (xcons (xtup (xcons xs (xcons (xtup (xcons xi (xcons xi xnil))) xnil))) (xcons xb xnil))) xnil)))))))))
    (ss_cons (sset 12 sclaw.nd (xbin (oadd false) (xv 12) (xlst false (xcons (xtup (xcons (xtup (xcons xs (xcons (xtup (xcons xi xnil)) (xcons xi xnil)))) (xcons xb xnil))) (xcons (xtup (xcons (xtup (xcons xs (xcons (xtup (xcons xi (xcons xi xnil))) (xcons xi xnil)))) (xcons xb xnil))) (xcons (xtup (xcons (xtup (xcons xs (xcons (xtup (xcons xi (xcons xi xnil))) (xcons xi xnil)))) (xcons xb xnil))) (xcons (xtup (xcons (xtup (xcons xs (xcons (xv 8) (xcons xi xnil)))) (xcons xb xnil))) (xcons (xtup (xcons (xtup (xcons xs (xcons (xv 8) (xcons xi xnil)))) (xcons xb xnil))) xnil))))))))
    (ss_cons (sset 12 sclaw.nd (xbin (oadd true) (xv 12) (xlst false (xcons (xtup (xcons (xtup (xcons xs (xcons (xtup (xcons xs xnil)) (xcons (xtup (xcons (xneg xi) (xcons xi xnil))) (xcons (xtup (xcons xi (xcons xi xnil))) xnil))))) (xcons xb xnil))) (xcons (xtup (xcons (xtup (xcons xs (xcons (xtup (xcons xs xnil)) (xcons (xtup (xcons xi (xcons xi xnil))) (xcons (xtup (xcons xi (xcons xi xnil))) xnil))))) (xcons xb xnil))) xnil)))))
    (ss_cons (sexpr (xapp (xv 12) (xtup (xcons (xtup (xcons xs (xcons (xtup (xcons xs (xcons (xtup (xcons xs xnil)) (xcons (xtup (xcons xi (xcons xi xnil))) (xcons (xtup (xcons xi (xcons xi xnil))) xnil))))) (xcons (xtup (xcons xi (xcons xi xnil))) (xcons (xtup (xcons xi (xcons xi xnil))) xnil))))) (xcons xb xnil)))))
    (ss_cons (sexpr (xapp (xv 12) (xtup (xcons (xtup (xcons xs (xcons (xtup (xcons xs (xcons (xtup (xcons xs xnil)) xnil))) (xcons (xtup (xcons xi (xcons xi xnil))) (xcons (xtup (xcons xi (xcons xi xnil))) xnil))))) (xcons xb xnil)))))
    (ss_cons (sset 12 sclaw.nd (xbin (oadd false) (xv 12) (xlst false (xcons (xtup (xcons (xtup (xcons xs xnil)) (xcons xb xnil))) (xcons (xtup (xcons (xtup (xcons xs (xcons xi xnil))) (xcons xb xnil))) (xcons (xtup (xcons xs (xcons xb xnil))) (xcons (xtup (xcons xn (xcons xb xnil))) (xcons (xtup (xcons (xtup (xcons xs (xcons (xv 8) (xcons (xv 8) xnil)))) (xcons xb xnil))) (xcons (xtup (xcons (xtup (xcons xs (xcons (xv 8) xnil))) (xcons xb xnil))) xnil)))))))))
    (ss_cons (sasg (xtup (xcons (xtup (xcons xs xnil)) (xcons (xtup (xcons xs xnil)) xnil))) (gtup (gcons (gname 13 sclaw.nd) (gcons (gname 14 sclaw.nd) gs_nil))))
    (ss_cons (sfor poF (irng1 b_range (xcons xi xnil)) (gname 2 sclaw.nd) (ss_one (sset 13 sclaw.nd (xtup (xcons xs (xcons (xv 13) (xcons (xv 13) xnil)))))))
    (ss_cons (sset 13 sclaw.nd (xtup (xcons xs (xcons (xv 13) (xcons (xtup (xcons xs (xcons (xtup (xcons xs (xcons (xv 14) xnil))) (xcons (xtup (xcons xs (xcons (xtup (xcons xs (xcons (xv 14) xnil))) (xcons (xtup (xcons xs (xcons (xv 14) xnil))) xnil)))) xnil)))) xnil)))))
    (ss_cons (sset 12 sclaw.nd (xbin (oadd false) (xv 12) (xlst false (xcons (xtup (xcons (xv 13) (xcons xb xnil))) (xcons (xtup (xcons (xtup (xcons xs (xcons (xv 13) xnil))) (xcons xb xnil))) (xcons (xtup (xcons (xtup (xcons xs (xcons (xv 13) (xcons (xv 14) xnil)))) (xcons xb xnil))) (xcons (xtup (xcons (xtup (xcons xs (xcons (xbin (oadd false) (xbin (omul false) (xtup (xcons xi xnil)) xi) (xtup (xcons xi xnil))) (xcons xi xnil)))) (xcons xb xnil))) (xcons (xtup (xcons (xtup (xcons xs (xcons (xtup (xcons (xbin opow xi xi) (xcons xi xnil))) xnil))) (xcons xb xnil))) xnil))))))))
    (ss_cons (sset 12 sclaw.nd (xbin (oadd false) (xv 12) (xlst false (xcons (xtup (xcons (xtup (xcons xs (xcons (xtup (xcons (xbin (oadd false) (xbin opow xi xi) xi) (xcons xi xnil))) xnil))) (xcons xb xnil))) (xcons (xtup (xcons (xtup (xcons xs (xcons (xtup (xcons xi (xcons (xbin opow xi xi) xnil))) xnil))) (xcons xb xnil))) (xcons (xtup (xcons (xtup (xcons xs (xcons (xv 8) (xcons xi xnil)))) (xcons xb xnil))) (xcons (xtup (xcons (xtup (xcons xs (xcons (xtup (xcons xi (xcons xi xnil))) (xcons (xneg xi) xnil)))) (xcons xb xnil))) xnil)))))))
    (ss_cons (s_if (tnot (tt (xfn0 h_law_integrands_right s_law_integrands_right hr (by omega) tkF))) (ss_one (s_ret xb)) ss_nil)
    (ss_cons (s_if (PW.pt (wo (tcmp (one' hr) bl_ne (xlc false [("row", 17)] sclaw.nd (ival (xv 12)) (gnameF 17 (fun _ => sclaw.nd)) (fun _ => ts_one (tcmp (one' hr) bl_ne (xfn his_tree sis_tree hr (by omega) LamX.takes0 (xcons (xix (xv 17) xi) xnil)) (xix (xv 17) xi))) (fun _ => (xv 17))) (xlst false xnil)) (wo1 (tcmp oisn bl_isn (xfn his_integrand sis_integrand hr (by omega) tkF (xcons (xtup (xcons xs (xcons (xtup (xcons xs xnil)) (xcons (xtup (xcons xi (xcons xi xnil))) (xcons (xtup (xcons xi (xcons xi xnil))) xnil))))) xnil)) xb)))) (ss_one (s_ret xb)) ss_nil)
    (ss_cons (sset 4 sclaw.nd (xlc true [("odd", 18)] sclaw.nd (ival (xtup (xcons xn (xcons (xtup (xcons xs xnil)) (xcons (xv 11) xnil))))) (gnameF 18 (fun _ => sclaw.nd)) (fun _ => ts_nil) (fun _ => (xlam T_law_error sc_law_error (fun _ => tell_law_error T_law_error.cls) TB hmT hu hr (by omega) (fun _ _ _ _ _ _ _ hrL => (xfn hsize_of ssize_of hrL (by omega) tkL (xcons (xv 18) xnil)))))))
    (ss_cons (sexpr (xapp (xv 4) (xlam T_law_error sc_law_error (fun _ => tell_law_error T_law_error.cls) TB hmT hu hr (by omega) (fun _ _ _ _ _ _ _ hrL => (xfn his_algebraic sis_algebraic hrL (by omega) tkL (xcons (xtup (xcons xs (xcons xi xnil))) xnil))))))
    (ss_cons (sexpr (xapp (xv 4) (xlam T_law_error sc_law_error (fun _ => tell_law_error T_law_error.cls) TB hmT hu hr (by omega) (fun _ _ _ _ _ _ _ hrL => (xfn hsort_at ssort_at hrL (by omega) tkL (xcons xn (xcons xn xnil)))))))
    (ss_one (s_ret (xand (xcmp (oeq hr) (xv 4) (xbin (omul false) (xlst false (xcons xs xnil)) xi)) (xone (xcmp (oeq hr) (xlam T_law_error sc_law_error (fun _ => tell_law_error T_law_error.cls) TB hmT hu hr (by omega) (fun _ _ _ _ _ _ _ hrL => (xfn hsort_at ssort_at hrL (by omega) tkL (xcons (xv 8) (xcons (xneg xi) xnil))))) xs)))))))))))))))))))))))))))
end LawX

set_option Elab.async false
set_option linter.all false
set_option maxRecDepth 100000
set_option maxHeartbeats 0
set_option exponentiation.threshold 5000
namespace LawX
open PySem PySem.Spec PyProof.Rows L2 Dx
/-! ### mirrors -/
def isInt : D → Bool
  | .int _ => true
  | _ => false
def isAny : D → Bool
  | .tup [.int a, .int b] => decide (0 < b) && decide (Nat.gcd a.natAbs b.natAbs = 1)
  | _ => false
def big : Int := 1000000000000
def isFrac : D → Bool
  | .tup [.int a, .int b] => (decide (0 < b) && decide (Nat.gcd a.natAbs b.natAbs = 1)) && (decide (a.natAbs ≤ 1000000000000) && decide (b ≤ 1000000000000))
  | _ => false
def lessB : D → D → Bool
  | .tup [.int a, .int b], .tup [.int c, .int d] => decide (a * d < c * b)
  | _, _ => false
def isStr : D → Bool
  | .tup [x, y] => isAny x && (isAny y && !lessB y x)
  | _ => false
def madeD (a b : Int) : D := .tup [.int (a.fdiv (Nat.gcd a.natAbs b.natAbs : Nat)), .int (b.fdiv (Nat.gcd a.natAbs b.natAbs : Nat))]
/-! ### contracts -/
def cRoll : Ct := fun ds S Q _ => ∃ n many, ds = [.obj n, .int many] ∧ Cup n S ∧ 0 < many ∧ many < 2 ^ 4000 ∧ ∀ k S', 0 ≤ k → k < many → CupR n S S' → Q (.int k) S'
def cSome : Ct := fun ds S Q _ => ∃ n xs, ds = [.obj n, .lst xs] ∧ Cup n S ∧ xs ≠ [] ∧ xs.length ≤ sizeLine ∧ ∀ d S', d ∈ xs → CupR n S S' → Q d S'
def cIsInt : Ct := fun ds S Q _ => ∃ v, ds = [v] ∧ datD v = true ∧ Q (.bl (isInt v)) S
def cIsTup : Ct := fun ds S Q _ => ∃ v a b, ds = [v, .int a, .int b] ∧ datD v = true ∧ Q (.bl (match v with | .tup xs => decide (a ≤ xs.length) && decide (xs.length ≤ b) | _ => false)) S
def cAny : Ct := fun ds S Q _ => ∃ v l, ds = [v] ∧ okD l v = true ∧ Q (.bl (isAny v)) S
def cFrac : Ct := fun ds S Q _ => ∃ v l, ds = [v] ∧ okD l v = true ∧ Q (.bl (isFrac v)) S
def cLess : Ct := fun ds S Q _ => ∃ a b c d, ds = [.tup [.int a, .int b], .tup [.int c, .int d]] ∧ cMul a d = true ∧ cMul c b = true ∧ Q (.bl (decide (a * d < c * b))) S
def cStr : Ct := fun ds S Q _ => ∃ v l, ds = [v] ∧ okD l v = true ∧ Q (.bl (isStr v)) S
def cMade : Ct := fun ds S Q _ => ∃ a b, ds = [.int a, .int b] ∧ 0 < b ∧ b < 2 ^ 4000 ∧ Q (madeD a b) S
def cCommon : Ct := fun ds S Q _ => ∃ a b, ds = [.int a, .int b] ∧ Q (.int (Nat.gcd a.natAbs b.natAbs : Nat)) S
theorem log_lt {b : Int} {n : Nat} (h0 : 0 < b) (h : b < 2 ^ n) : b.natAbs.log2 < n := by
  have : b.natAbs < 2 ^ n := by
    have e : ((2 ^ n : Nat) : Int) = 2 ^ n := by simp
    omega
  exact (Nat.log2_lt (by omega)).mpr this
theorem fmod_bd {a m : Int} (h : 0 < m) : 0 ≤ a.fmod m ∧ a.fmod m < m := ⟨Int.fmod_nonneg_of_pos a h, Int.fmod_lt_of_pos a h⟩
/-! ### the cup -/
theorem roll_ok (ds : List D) (S : Store) (Q : D → Store → Prop) (E : QX) (h : cRoll ds S Q E) : fs_law_roll (bodyEnds Q E) (startE N_law_roll ds) S := by
  obtain ⟨n, many, rfl, ⟨a, b, hc⟩, h0, hm, q⟩ := h
  have hl : n < S.length := (List.getElem?_eq_some_iff.mp hc).1
  have c0 : Cup n S := ⟨a, b, hc⟩
  have hm0 : ¬ many = 0 := by omega
  have hlg : many.natAbs.log2 < 9000 := Nat.lt_trans (log_lt h0 hm) (by decide)
  by_cases ha : 0 < a
  · have := q (a.fmod many) _ (fmod_bd h0).1 (fmod_bd h0).2 (CupR.set (a := a.fdiv many) (b := b) c0)
    simp [fs_law_roll, seqS, setS, retS, retN, exprS, nilS, ifS, parS, asgS, bindT, bindTs, bindF, callC, varF, retF, consF, nilF, iteV, truF, truD, notF, andF, orF, andV, orV, notV, chF, chT, bodyEnds, startE, optF, idxF, slcF, intF, noF, newL, tyD, isiT, isiB, lenB, absB, intB, gcdB, tupB, lstB, ltG, leG, gtG, geG, isG, isnG, o2I, isO, getS, addF, subF, mulF, eqG_ii, neG_ii, neG_bb, fdivG, modG, powG, raiseS, wipeE, N_law_roll, hc, ha, L2.atI, L2.ixN, subS, hm0, cDiv, hlg]
    exact this
  · have := q (((b * 31081 + 8039).fmod 2147483543 * ((b * 31081 + 8039).fmod 2147483543 + 251)).fmod 2147483587 |>.fdiv 839 |>.fmod many) _ (fmod_bd h0).1 (fmod_bd h0).2 (CupR.set (a := a) (b := (b * 31081 + 8039).fmod 2147483543) c0)
    have hb := fmod_bd (a := b * 31081 + 8039) (m := 2147483543) (by decide)
    have hb2 : cMul ((b * 31081 + 8039).fmod 2147483543) ((b * 31081 + 8039).fmod 2147483543 + 251) = true := by
      unfold cMul
      simp only [Bool.or_eq_true, decide_eq_true_eq]
      omega
    have hb3 : cMul b 31081 = true := by
      unfold cMul
      simp only [Bool.or_eq_true, decide_eq_true_eq]
      omega
    have h839 : cDiv ((((b * 31081 + 8039).fmod 2147483543) * ((b * 31081 + 8039).fmod 2147483543 + 251)).fmod 2147483587) 839 = true := by
      unfold cDiv
      decide +revert
    have hset : ∀ v, (S.set n v)[n]? = some v := fun v => List.getElem?_set_self hl
    simp [fs_law_roll, seqS, setS, retS, retN, exprS, nilS, ifS, parS, asgS, bindT, bindTs, bindF, callC, varF, retF, consF, nilF, iteV, truF, truD, notF, andF, orF, andV, orV, notV, chF, chT, bodyEnds, startE, optF, idxF, slcF, intF, noF, newL, tyD, isiT, isiB, lenB, absB, intB, gcdB, tupB, lstB, ltG, leG, gtG, geG, isG, isnG, o2I, isO, getS, addF, subF, mulF, eqG_ii, neG_ii, neG_bb, fdivG, modG, powG, raiseS, wipeE, N_law_roll, hc, ha, L2.atI, L2.ixN, subS, hm0, hlg, hb3, hb2, hset, List.set_set, h839]
    exact this
theorem some_ok (ds : List D) (S : Store) (Q : D → Store → Prop) (E : QX) (h : cSome ds S Q E) : fs_law_some cRoll (bodyEnds Q E) (startE N_law_some ds) S := by
  obtain ⟨n, xs, rfl, hc, hx, hl, q⟩ := h
  have hp : 0 < xs.length := List.length_pos_iff.mpr hx
  have hs := sizeLine_eq
  simp only [fs_law_some, seqS, setS, retS, retN, exprS, nilS, ifS, parS, asgS, bindT, bindTs, bindF, callC, varF, retF, consF, nilF, iteV, truF, truD, notF, andF, orF, andV, orV, notV, chF, chT, bodyEnds, startE, optF, idxF, slcF, intF, noF, newL, tyD, isiT, isiB, lenB, absB, intB, gcdB, tupB, lstB, ltG, leG, gtG, geG, isG, isnG, o2I, isO, getS, addF, subF, mulF, eqG_ii, neG_ii, neG_bb, fdivG, modG, powG, raiseS, wipeE, N_law_some, List.map_cons, List.map_nil, List.length_cons, List.length_nil, List.cons_append, List.getElem?_cons_succ, List.getElem?_cons_zero]
  refine ⟨n, xs.length, rfl, hc, by omega, ?_, fun k S' h0 h1 hr => ?_⟩
  · have : (2 : Int) ^ 4000 > 2 ^ 30 := by decide
    omega
  · obtain ⟨j, hj⟩ : ∃ j : Nat, k = j := ⟨k.toNat, by omega⟩
    subst hj
    have hjl : j < xs.length := by omega
    have e : L2.atI xs (j : Int) = some xs[j] := by
      unfold L2.atI L2.ixN
      rw [if_pos h0, if_pos h1]
      simp [hjl]
    simp only [e]
    exact q _ _ (List.getElem_mem hjl) hr
/-! ### plain tests -/
theorem isInt_ok (ds : List D) (S : Store) (Q : D → Store → Prop) (E : QX) (h : cIsInt ds S Q E) : fsis_integer (bodyEnds Q E) (startE Nis_integer ds) S := by
  obtain ⟨v, rfl, hv, hq⟩ := h
  cases v <;> simp [datD] at hv <;> simp [fsis_integer, seqS, setS, retS, retN, exprS, nilS, ifS, parS, asgS, bindT, bindTs, bindF, callC, varF, retF, consF, nilF, iteV, truF, truD, notF, andF, orF, andV, orV, notV, chF, chT, bodyEnds, startE, optF, idxF, slcF, intF, noF, newL, tyD, isiT, isiB, lenB, absB, intB, gcdB, tupB, lstB, ltG, leG, gtG, geG, isG, isnG, o2I, isO, getS, addF, subF, mulF, eqG_ii, neG_ii, neG_bb, fdivG, modG, powG, raiseS, wipeE, Nis_integer] <;> exact hq
theorem isTup_ok (ds : List D) (S : Store) (Q : D → Store → Prop) (E : QX) (h : cIsTup ds S Q E) : fsis_tuple_of (bodyEnds Q E) (startE Nis_tuple_of ds) S := by
  obtain ⟨v, a, b, rfl, hv, hq⟩ := h
  cases v with
  | tup xs =>
    by_cases h1 : a ≤ xs.length <;> simp [fsis_tuple_of, seqS, setS, retS, retN, exprS, nilS, ifS, parS, asgS, bindT, bindTs, bindF, callC, varF, retF, consF, nilF, iteV, truF, truD, notF, andF, orF, andV, orV, notV, chF, chT, bodyEnds, startE, optF, idxF, slcF, intF, noF, newL, tyD, isiT, isiB, lenB, absB, intB, gcdB, tupB, lstB, ltG, leG, gtG, geG, isG, isnG, o2I, isO, getS, addF, subF, mulF, eqG_ii, neG_ii, neG_bb, fdivG, modG, powG, raiseS, wipeE, Nis_tuple_of, h1] <;> simp [h1] at hq <;> exact hq
  | _ => simp [datD] at hv <;> simp [fsis_tuple_of, seqS, setS, retS, retN, exprS, nilS, ifS, parS, asgS, bindT, bindTs, bindF, callC, varF, retF, consF, nilF, iteV, truF, truD, notF, andF, orF, andV, orV, notV, chF, chT, bodyEnds, startE, optF, idxF, slcF, intF, noF, newL, tyD, isiT, isiB, lenB, absB, intB, gcdB, tupB, lstB, ltG, leG, gtG, geG, isG, isnG, o2I, isO, getS, addF, subF, mulF, eqG_ii, neG_ii, neG_bb, fdivG, modG, powG, raiseS, wipeE, Nis_tuple_of] <;> exact hq
theorem len2 {α : Type} {l : List α} (h : l.length = 2) : ∃ a b, l = [a, b] := by
  match l, h with
  | [a, b], _ => exact ⟨a, b, rfl⟩
theorem any_ok (ds : List D) (S : Store) (Q : D → Store → Prop) (E : QX) (h : cAny ds S Q E) : fsfits_any cIsTup cIsInt (bodyEnds Q E) (startE Nfits_any ds) S := by
  obtain ⟨v, l, rfl, hv, hq⟩ := h
  have hd := okD_dat hv
  simp only [fsfits_any, seqS, setS, retS, retN, exprS, nilS, ifS, parS, asgS, bindT, bindTs, bindF, callC, varF, retF, consF, nilF, iteV, truF, truD, notF, andF, orF, andV, orV, notV, chF, chT, bodyEnds, startE, optF, idxF, slcF, intF, noF, newL, tyD, isiT, isiB, lenB, absB, intB, gcdB, tupB, lstB, ltG, leG, gtG, geG, isG, isnG, o2I, isO, getS, addF, subF, mulF, eqG_ii, neG_ii, neG_bb, fdivG, modG, powG, raiseS, wipeE, Nfits_any, List.map_cons, List.map_nil, List.length_cons, List.length_nil, List.cons_append, List.getElem?_cons_succ, List.getElem?_cons_zero]
  refine ⟨v, 2, 2, rfl, hd, ?_⟩
  cases v with
  | tup xs =>
    by_cases hl : xs.length = 2
    · obtain ⟨x, y, rfl⟩ := len2 hl
      have hxy := okD_tup.mp hv
      have hx := okD_dat (hxy.2 x (by simp))
      have hy := okD_dat (hxy.2 y (by simp))
      simp [seqS, setS, retS, retN, exprS, nilS, ifS, parS, asgS, bindT, bindTs, bindF, callC, varF, retF, consF, nilF, iteV, truF, truD, notF, andF, orF, andV, orV, notV, chF, chT, bodyEnds, startE, optF, idxF, slcF, intF, noF, newL, tyD, isiT, isiB, lenB, absB, intB, gcdB, tupB, lstB, ltG, leG, gtG, geG, isG, isnG, o2I, isO, getS, addF, subF, mulF, eqG_ii, neG_ii, neG_bb, fdivG, modG, powG, raiseS, wipeE, L2.atI, L2.ixN]
      refine ⟨x, rfl, hx, ?_⟩
      cases x with
      | int i =>
        simp [isInt, seqS, setS, retS, retN, exprS, nilS, ifS, parS, asgS, bindT, bindTs, bindF, callC, varF, retF, consF, nilF, iteV, truF, truD, notF, andF, orF, andV, orV, notV, chF, chT, bodyEnds, startE, optF, idxF, slcF, intF, noF, newL, tyD, isiT, isiB, lenB, absB, intB, gcdB, tupB, lstB, ltG, leG, gtG, geG, isG, isnG, o2I, isO, getS, addF, subF, mulF, eqG_ii, neG_ii, neG_bb, fdivG, modG, powG, raiseS, wipeE, L2.atI, L2.ixN]
        refine ⟨y, rfl, hy, ?_⟩
        cases y with
        | int j =>
          simp [isInt, isAny, seqS, setS, retS, retN, exprS, nilS, ifS, parS, asgS, bindT, bindTs, bindF, callC, varF, retF, consF, nilF, iteV, truF, truD, notF, andF, orF, andV, orV, notV, chF, chT, bodyEnds, startE, optF, idxF, slcF, intF, noF, newL, tyD, isiT, isiB, lenB, absB, intB, gcdB, tupB, lstB, ltG, leG, gtG, geG, isG, isnG, o2I, isO, getS, addF, subF, mulF, eqG_ii, neG_ii, neG_bb, fdivG, modG, powG, raiseS, wipeE, L2.atI, L2.ixN] at hq ⊢
          by_cases hb : 0 < j
          · simp [hb, seqS, setS, retS, retN, exprS, nilS, ifS, parS, asgS, bindT, bindTs, bindF, callC, varF, retF, consF, nilF, iteV, truF, truD, notF, andF, orF, andV, orV, notV, chF, chT, bodyEnds, startE, optF, idxF, slcF, intF, noF, newL, tyD, isiT, isiB, lenB, absB, intB, gcdB, tupB, lstB, ltG, leG, gtG, geG, isG, isnG, o2I, isO, getS, addF, subF, mulF, eqG_ii, neG_ii, neG_bb, fdivG, modG, powG, raiseS, wipeE, L2.atI, L2.ixN] at hq ⊢
            have e : decide (((i.natAbs.gcd j.natAbs : Nat) : Int) = 1) = decide (i.natAbs.gcd j.natAbs = 1) := by rw [Bool.eq_iff_iff]; simp only [decide_eq_true_eq]; omega
            first | exact hq | (rw [e]; exact hq)
          · simp [hb, seqS, setS, retS, retN, exprS, nilS, ifS, parS, asgS, bindT, bindTs, bindF, callC, varF, retF, consF, nilF, iteV, truF, truD, notF, andF, orF, andV, orV, notV, chF, chT, bodyEnds, startE, optF, idxF, slcF, intF, noF, newL, tyD, isiT, isiB, lenB, absB, intB, gcdB, tupB, lstB, ltG, leG, gtG, geG, isG, isnG, o2I, isO, getS, addF, subF, mulF, eqG_ii, neG_ii, neG_bb, fdivG, modG, powG, raiseS, wipeE] at hq ⊢
            exact hq
        | _ => simp [isInt, isAny, seqS, setS, retS, retN, exprS, nilS, ifS, parS, asgS, bindT, bindTs, bindF, callC, varF, retF, consF, nilF, iteV, truF, truD, notF, andF, orF, andV, orV, notV, chF, chT, bodyEnds, startE, optF, idxF, slcF, intF, noF, newL, tyD, isiT, isiB, lenB, absB, intB, gcdB, tupB, lstB, ltG, leG, gtG, geG, isG, isnG, o2I, isO, getS, addF, subF, mulF, eqG_ii, neG_ii, neG_bb, fdivG, modG, powG, raiseS, wipeE] at hq ⊢; exact hq
      | _ => simp [isInt, isAny, seqS, setS, retS, retN, exprS, nilS, ifS, parS, asgS, bindT, bindTs, bindF, callC, varF, retF, consF, nilF, iteV, truF, truD, notF, andF, orF, andV, orV, notV, chF, chT, bodyEnds, startE, optF, idxF, slcF, intF, noF, newL, tyD, isiT, isiB, lenB, absB, intB, gcdB, tupB, lstB, ltG, leG, gtG, geG, isG, isnG, o2I, isO, getS, addF, subF, mulF, eqG_ii, neG_ii, neG_bb, fdivG, modG, powG, raiseS, wipeE] at hq ⊢; exact hq
    · have : ¬ (2 ≤ (xs.length : Int) ∧ (xs.length : Int) ≤ 2) := by omega
      have e : (decide (2 ≤ (xs.length : Int)) && decide ((xs.length : Int) ≤ 2)) = false := by simpa using this
      simp [e, seqS, setS, retS, retN, exprS, nilS, ifS, parS, asgS, bindT, bindTs, bindF, callC, varF, retF, consF, nilF, iteV, truF, truD, notF, andF, orF, andV, orV, notV, chF, chT, bodyEnds, startE, optF, idxF, slcF, intF, noF, newL, tyD, isiT, isiB, lenB, absB, intB, gcdB, tupB, lstB, ltG, leG, gtG, geG, isG, isnG, o2I, isO, getS, addF, subF, mulF, eqG_ii, neG_ii, neG_bb, fdivG, modG, powG, raiseS, wipeE]
      have : isAny (.tup xs) = false := by
        unfold isAny
        split
        · rename_i q; cases q; simp at hl
        · rfl
      rw [this] at hq
      exact hq
  | _ => simp [isAny] at hq; simp [seqS, setS, retS, retN, exprS, nilS, ifS, parS, asgS, bindT, bindTs, bindF, callC, varF, retF, consF, nilF, iteV, truF, truD, notF, andF, orF, andV, orV, notV, chF, chT, bodyEnds, startE, optF, idxF, slcF, intF, noF, newL, tyD, isiT, isiB, lenB, absB, intB, gcdB, tupB, lstB, ltG, leG, gtG, geG, isG, isnG, o2I, isO, getS, addF, subF, mulF, eqG_ii, neG_ii, neG_bb, fdivG, modG, powG, raiseS, wipeE]; exact hq

theorem frac_ok (ds : List D) (S : Store) (Q : D → Store → Prop) (E : QX) (h : cFrac ds S Q E) : fsfits_fraction cAny (bodyEnds Q E) (startE Nfits_fraction ds) S := by
  obtain ⟨v, l, rfl, hv, hq⟩ := h
  simp [fsfits_fraction, seqS, setS, retS, retN, exprS, nilS, ifS, parS, asgS, bindT, bindTs, bindF, callC, varF, retF, consF, nilF, iteV, truF, truD, notF, andF, orF, andV, orV, notV, chF, chT, bodyEnds, startE, optF, idxF, slcF, intF, noF, newL, tyD, isiT, isiB, lenB, absB, intB, gcdB, tupB, lstB, ltG, leG, gtG, geG, isG, isnG, o2I, isO, getS, addF, subF, mulF, eqG_ii, neG_ii, neG_bb, fdivG, modG, powG, raiseS, wipeE, Nfits_fraction]
  refine ⟨v, l, rfl, hv, ?_⟩
  by_cases ha : isAny v = true
  · simp [ha, seqS, setS, retS, retN, exprS, nilS, ifS, parS, asgS, bindT, bindTs, bindF, callC, varF, retF, consF, nilF, iteV, truF, truD, notF, andF, orF, andV, orV, notV, chF, chT, bodyEnds, startE, optF, idxF, slcF, intF, noF, newL, tyD, isiT, isiB, lenB, absB, intB, gcdB, tupB, lstB, ltG, leG, gtG, geG, isG, isnG, o2I, isO, getS, addF, subF, mulF, eqG_ii, neG_ii, neG_bb, fdivG, modG, powG, raiseS, wipeE]
    unfold isAny at ha
    split at ha
    · rename_i a b
      simp [isFrac] at hq ha
      have e : decide ((if a < 0 then -a else a) ≤ 1000000000000) = decide (a.natAbs ≤ 1000000000000) := by
        rw [Bool.eq_iff_iff]; simp only [decide_eq_true_eq]; split <;> omega
      simp [seqS, setS, retS, retN, exprS, nilS, ifS, parS, asgS, bindT, bindTs, bindF, callC, varF, retF, consF, nilF, iteV, truF, truD, notF, andF, orF, andV, orV, notV, chF, chT, bodyEnds, startE, optF, idxF, slcF, intF, noF, newL, tyD, isiT, isiB, lenB, absB, intB, gcdB, tupB, lstB, ltG, leG, gtG, geG, isG, isnG, o2I, isO, getS, addF, subF, mulF, eqG_ii, neG_ii, neG_bb, fdivG, modG, powG, raiseS, wipeE, L2.atI, L2.ixN]
      by_cases hs : a.natAbs ≤ 1000000000000
      · simp [ha, hs] at hq
        have e2 : (if a < 0 then -a else a) ≤ 1000000000000 := by split <;> omega
        simp [e2, hs, seqS, setS, retS, retN, exprS, nilS, ifS, parS, asgS, bindT, bindTs, bindF, callC, varF, retF, consF, nilF, iteV, truF, truD, notF, andF, orF, andV, orV, notV, chF, chT, bodyEnds, startE, optF, idxF, slcF, intF, noF, newL, tyD, isiT, isiB, lenB, absB, intB, gcdB, tupB, lstB, ltG, leG, gtG, geG, isG, isnG, o2I, isO, getS, addF, subF, mulF, eqG_ii, neG_ii, neG_bb, fdivG, modG, powG, raiseS, wipeE, L2.atI, L2.ixN]
        exact hq
      · simp [ha, hs] at hq
        have e2 : ¬ (if a < 0 then -a else a) ≤ 1000000000000 := by split <;> omega
        simp [e2, hs, seqS, setS, retS, retN, exprS, nilS, ifS, parS, asgS, bindT, bindTs, bindF, callC, varF, retF, consF, nilF, iteV, truF, truD, notF, andF, orF, andV, orV, notV, chF, chT, bodyEnds, startE, optF, idxF, slcF, intF, noF, newL, tyD, isiT, isiB, lenB, absB, intB, gcdB, tupB, lstB, ltG, leG, gtG, geG, isG, isnG, o2I, isO, getS, addF, subF, mulF, eqG_ii, neG_ii, neG_bb, fdivG, modG, powG, raiseS, wipeE, L2.atI, L2.ixN]
        exact hq
    · cases ha
  · have e : isFrac v = false := by
      cases q : isFrac v with
      | false => rfl
      | true =>
        unfold isFrac at q
        split at q
        · simp at q
          exact absurd (by simp [isAny, q]) ha
        · cases q
    rw [e] at hq
    simp at ha
    simp [ha, seqS, setS, retS, retN, exprS, nilS, ifS, parS, asgS, bindT, bindTs, bindF, callC, varF, retF, consF, nilF, iteV, truF, truD, notF, andF, orF, andV, orV, notV, chF, chT, bodyEnds, startE, optF, idxF, slcF, intF, noF, newL, tyD, isiT, isiB, lenB, absB, intB, gcdB, tupB, lstB, ltG, leG, gtG, geG, isG, isnG, o2I, isO, getS, addF, subF, mulF, eqG_ii, neG_ii, neG_bb, fdivG, modG, powG, raiseS, wipeE]
    exact hq
theorem less_ok (ds : List D) (S : Store) (Q : D → Store → Prop) (E : QX) (h : cLess ds S Q E) : fsis_less (bodyEnds Q E) (startE Nis_less ds) S := by
  obtain ⟨a, b, c, d, rfl, h1, h2, hq⟩ := h
  simp [fsis_less, seqS, setS, retS, retN, exprS, nilS, ifS, parS, asgS, bindT, bindTs, bindF, callC, varF, retF, consF, nilF, iteV, truF, truD, notF, andF, orF, andV, orV, notV, chF, chT, bodyEnds, startE, optF, idxF, slcF, intF, noF, newL, tyD, isiT, isiB, lenB, absB, intB, gcdB, tupB, lstB, ltG, leG, gtG, geG, isG, isnG, o2I, isO, getS, addF, subF, mulF, eqG_ii, neG_ii, neG_bb, fdivG, modG, powG, raiseS, wipeE, Nis_less, L2.atI, L2.ixN, h1, h2]
  exact hq
theorem log4000 {i : Int} (h : i.natAbs < 2 ^ 4000) : i.natAbs.log2 ≤ 4000 := by
  by_cases h0 : i.natAbs = 0
  · rw [h0]; decide
  · exact Nat.le_of_lt ((Nat.log2_lt h0).mpr h)
theorem cmul_ok {i j : Int} (h : i.natAbs < 2 ^ 4000) (h' : j.natAbs < 2 ^ 4000) : cMul i j = true := by
  have h1 := log4000 h
  have h2 := log4000 h'
  unfold cMul
  simp only [Bool.or_eq_true, decide_eq_true_eq]
  left; left; omega
theorem any_form {v : D} (h : isAny v = true) : ∃ a b, v = .tup [.int a, .int b] ∧ 0 < b ∧ Nat.gcd a.natAbs b.natAbs = 1 := by
  unfold isAny at h
  split at h
  · rename_i a b
    simp at h
    exact ⟨a, b, rfl, h.1, h.2⟩
  · cases h
/-! ### need_whole, made, fraction_of -/
def wholeB (v : D) (a b : Int) : Bool := match v with
  | .int i => decide (a ≤ i) && decide (i ≤ b)
  | _ => false
def cWhole : Ct := fun ds S Q _ => ∃ v a b, ds = [v, .int a, .int b] ∧ datD v = true ∧ Q (.bl (wholeB v a b)) S
def cNeed : Ct := fun ds S Q E => ∃ v a b, ds = [v, .int a, .int b] ∧ datD v = true ∧ if wholeB v a b = true then Q .non S else E ⟨"InvalidNumber", []⟩ S
def cFracOf : Ct := fun ds S Q E => ∃ v u, ds = [v, u] ∧ datD v = true ∧ datD u = true ∧ ((wholeB v (-1000000000000) 1000000000000 && wholeB u 1 1000000000000) = false → E ⟨"InvalidNumber", []⟩ S) ∧
  ∀ a b, v = .int a → u = .int b → -1000000000000 ≤ a → a ≤ 1000000000000 → 1 ≤ b → b ≤ 1000000000000 → Q (madeD a b) S
theorem whole_ok (ds : List D) (S : Store) (Q : D → Store → Prop) (E : QX) (h : cWhole ds S Q E) : fsis_whole (bodyEnds Q E) (startE Nis_whole ds) S := by
  obtain ⟨v, a, b, rfl, hv, hq⟩ := h
  cases v with
  | int i =>
    simp [wholeB] at hq
    by_cases h1 : a ≤ i
    · simp [h1] at hq
      simp [fsis_whole, seqS, setS, retS, retN, exprS, nilS, ifS, parS, asgS, bindT, bindTs, bindF, callC, varF, retF, consF, nilF, iteV, truF, truD, notF, andF, orF, andV, orV, notV, chF, chT, bodyEnds, startE, optF, idxF, slcF, intF, noF, newL, tyD, isiT, isiB, lenB, absB, intB, gcdB, tupB, lstB, ltG, leG, gtG, geG, isG, isnG, o2I, isO, getS, addF, subF, mulF, eqG_ii, neG_ii, neG_bb, fdivG, modG, powG, raiseS, wipeE, Nis_whole, h1]
      exact hq
    · simp [h1] at hq
      simp [fsis_whole, seqS, setS, retS, retN, exprS, nilS, ifS, parS, asgS, bindT, bindTs, bindF, callC, varF, retF, consF, nilF, iteV, truF, truD, notF, andF, orF, andV, orV, notV, chF, chT, bodyEnds, startE, optF, idxF, slcF, intF, noF, newL, tyD, isiT, isiB, lenB, absB, intB, gcdB, tupB, lstB, ltG, leG, gtG, geG, isG, isnG, o2I, isO, getS, addF, subF, mulF, eqG_ii, neG_ii, neG_bb, fdivG, modG, powG, raiseS, wipeE, Nis_whole, h1]
      exact hq
  | _ => simp [datD] at hv <;> simp [wholeB] at hq <;> simp [fsis_whole, seqS, setS, retS, retN, exprS, nilS, ifS, parS, asgS, bindT, bindTs, bindF, callC, varF, retF, consF, nilF, iteV, truF, truD, notF, andF, orF, andV, orV, notV, chF, chT, bodyEnds, startE, optF, idxF, slcF, intF, noF, newL, tyD, isiT, isiB, lenB, absB, intB, gcdB, tupB, lstB, ltG, leG, gtG, geG, isG, isnG, o2I, isO, getS, addF, subF, mulF, eqG_ii, neG_ii, neG_bb, fdivG, modG, powG, raiseS, wipeE, Nis_whole] <;> exact hq
theorem gcd_pos {a b : Int} (h : 0 < b) : 0 < Nat.gcd a.natAbs b.natAbs := Nat.gcd_pos_of_pos_right _ (by omega)
theorem gcd_le {a b : Int} (h : 0 < b) : Nat.gcd a.natAbs b.natAbs ≤ b.natAbs := Nat.le_of_dvd (by omega) (Nat.gcd_dvd_right _ _)
theorem cdiv_ok {a b : Int} (c : Int) (h : 0 < b) (hb : b < 2 ^ 4000) : cDiv c (Nat.gcd a.natAbs b.natAbs : Nat) = true := by
  have h1 := gcd_pos (a := a) h
  have h2 := gcd_le (a := a) h
  have h3 : Nat.gcd a.natAbs b.natAbs < 2 ^ 4000 := by
    have e : ((2 ^ 4000 : Nat) : Int) = 2 ^ 4000 := by simp
    omega
  unfold cDiv
  simp only [Bool.and_eq_true, Bool.not_eq_true', decide_eq_true_eq, decide_eq_false_iff_not, Int.natAbs_natCast]
  exact ⟨by omega, Nat.lt_trans ((Nat.log2_lt (by omega)).mpr h3) (by decide)⟩
theorem made_ok (ds : List D) (S : Store) (Q : D → Store → Prop) (E : QX) (h : cMade ds S Q E) : fsmade (bodyEnds Q E) (startE Nmade ds) S := by
  obtain ⟨a, b, rfl, h0, hb, hq⟩ := h
  have hs := sizeLine_eq
  simp [fsmade, seqS, setS, retS, retN, exprS, nilS, ifS, parS, asgS, bindT, bindTs, bindF, callC, varF, retF, consF, nilF, iteV, truF, truD, notF, andF, orF, andV, orV, notV, chF, chT, bodyEnds, startE, optF, idxF, slcF, intF, noF, newL, tyD, isiT, isiB, lenB, absB, intB, gcdB, tupB, lstB, ltG, leG, gtG, geG, isG, isnG, o2I, isO, getS, addF, subF, mulF, eqG_ii, neG_ii, neG_bb, fdivG, modG, powG, raiseS, wipeE, Nmade, h0, cdiv_ok _ h0 hb]
  exact ⟨by rw [hs]; decide, hq⟩
/-! ### the law's own -/
theorem gcd_step {a b : Int} (hb : b ≠ 0) : Nat.gcd b.natAbs (a.fmod b).natAbs = Nat.gcd a.natAbs b.natAbs := by
  have h1 : Int.gcd b (a.fmod b) = Int.gcd a b := by
    have e : a = b * a.fdiv b + a.fmod b := (Int.mul_fdiv_add_fmod a b).symm
    conv => rhs; rw [e]
    rw [Int.gcd_comm (b * a.fdiv b + a.fmod b) b]
    simp
  exact h1
theorem fmod_small {a b : Int} (hb : b ≠ 0) : (a.fmod b).natAbs < b.natAbs := by
  rcases Int.lt_or_gt_of_ne hb with h | h
  · have e : a.fmod b = a % b + if 0 ≤ b ∨ b ∣ a then 0 else b := Int.fmod_eq_emod
    have h1 := Int.emod_nonneg a hb
    have h2 : a % b < -b := by
      have := Int.emod_lt_of_pos a (b := -b) (by omega)
      rwa [Int.emod_neg] at this
    by_cases hd : b ∣ a
    · have h4 := Int.emod_eq_zero_of_dvd hd
      simp [hd] at e
      omega
    · have h4 : a % b ≠ 0 := fun z => hd (Int.dvd_of_emod_eq_zero z)
      have h5 : ¬ (0 ≤ b ∨ b ∣ a) := by
        rintro (z | z)
        · omega
        · exact hd z
      rw [if_neg h5] at e
      omega
  · have := fmod_bd (a := a) h
    omega
theorem common_ok (ds : List D) (S : Store) (Q : D → Store → Prop) (E : QX) (h : cCommon ds S Q E) : fs_law_common (bodyEnds Q E) (startE N_law_common ds) S := by
  obtain ⟨a, b, rfl, hq⟩ := h
  have e0 : startE N_law_common [D.int a, D.int b] = [some (.int a), some (.int b)] := rfl
  rw [e0]
  show whileS _ _ _ _ S
  refine ⟨fun n τ S' => S' = S ∧ ∃ x y : Int, n = y.natAbs ∧ τ = [some (.int x), some (.int y)] ∧ Nat.gcd x.natAbs y.natAbs = Nat.gcd a.natAbs b.natAbs, ⟨b.natAbs, rfl, a, b, rfl, rfl, rfl⟩, ?_⟩
  rintro n τ S' ⟨rfl, x, y, rfl, rfl, hg⟩
  by_cases hy : y = 0
  · subst hy
    simp [seqS, setS, retS, retN, exprS, nilS, ifS, parS, asgS, bindT, bindTs, bindF, callC, varF, retF, consF, nilF, iteV, truF, truD, notF, andF, orF, andV, orV, notV, chF, chT, bodyEnds, startE, optF, idxF, slcF, intF, noF, newL, tyD, isiT, isiB, lenB, absB, intB, gcdB, tupB, lstB, ltG, leG, gtG, geG, isG, isnG, o2I, isO, getS, addF, subF, mulF, eqG_ii, neG_ii, neG_bb, fdivG, modG, powG, raiseS, wipeE]
    have hx : Nat.gcd a.natAbs b.natAbs = x.natAbs := by rw [← hg]; simp
    by_cases h0 : 0 < x
    · have e : ((Nat.gcd a.natAbs b.natAbs : Nat) : Int) = x := by rw [hx]; omega
      rw [e] at hq
      simp [h0]
      exact hq
    · have e : ((Nat.gcd a.natAbs b.natAbs : Nat) : Int) = -x := by rw [hx]; omega
      rw [e] at hq
      simp [h0]
      exact hq
  · have h1 := fmod_small (a := x) hy
    have h2 := gcd_step (a := x) hy
    simp [seqS, setS, retS, retN, exprS, nilS, ifS, parS, asgS, bindT, bindTs, bindF, callC, varF, retF, consF, nilF, iteV, truF, truD, notF, andF, orF, andV, orV, notV, chF, chT, bodyEnds, startE, optF, idxF, slcF, intF, noF, newL, tyD, isiT, isiB, lenB, absB, intB, gcdB, tupB, lstB, ltG, leG, gtG, geG, isG, isnG, o2I, isO, getS, addF, subF, mulF, eqG_ii, neG_ii, neG_bb, fdivG, modG, powG, raiseS, wipeE, hy]
    exact ⟨_, h1, _, _, rfl, ⟨rfl, rfl⟩, by rw [h2, hg]⟩
theorem lawmade_ok (ds : List D) (S : Store) (Q : D → Store → Prop) (E : QX) (h : cMade ds S Q E) : fs_law_made cCommon (bodyEnds Q E) (startE N_law_made ds) S := by
  obtain ⟨a, b, rfl, h0, hb, hq⟩ := h
  have hs := sizeLine_eq
  simp [fs_law_made, seqS, setS, retS, retN, exprS, nilS, ifS, parS, asgS, bindT, bindTs, bindF, callC, varF, retF, consF, nilF, iteV, truF, truD, notF, andF, orF, andV, orV, notV, chF, chT, bodyEnds, startE, optF, idxF, slcF, intF, noF, newL, tyD, isiT, isiB, lenB, absB, intB, gcdB, tupB, lstB, ltG, leG, gtG, geG, isG, isnG, o2I, isO, getS, addF, subF, mulF, eqG_ii, neG_ii, neG_bb, fdivG, modG, powG, raiseS, wipeE, N_law_made]
  refine ⟨a, b, rfl, ?_⟩
  simp [seqS, setS, retS, retN, exprS, nilS, ifS, parS, asgS, bindT, bindTs, bindF, callC, varF, retF, consF, nilF, iteV, truF, truD, notF, andF, orF, andV, orV, notV, chF, chT, bodyEnds, startE, optF, idxF, slcF, intF, noF, newL, tyD, isiT, isiB, lenB, absB, intB, gcdB, tupB, lstB, ltG, leG, gtG, geG, isG, isnG, o2I, isO, getS, addF, subF, mulF, eqG_ii, neG_ii, neG_bb, fdivG, modG, powG, raiseS, wipeE, h0, cdiv_ok _ h0 hb]
  exact ⟨by rw [hs]; decide, hq⟩
theorem eq_made {a b : Int} (h : 0 < b) : eqD (madeD a b) (.tup [.int a, .int b]) = decide (Nat.gcd a.natAbs b.natAbs = 1) := by
  have hp := gcd_pos (a := a) h
  rw [Bool.eq_iff_iff]
  simp only [madeD, eqD, eqDs, Bool.and_true, Bool.and_eq_true, beq_iff_eq, decide_eq_true_eq]
  constructor
  · rintro ⟨_, h2⟩
    have hd : ((Nat.gcd a.natAbs b.natAbs : Nat) : Int) ∣ b := Int.gcd_dvd_right ..
    rw [Int.fdiv_eq_ediv_of_nonneg _ (by omega)] at h2
    have h3 := Int.mul_ediv_cancel' hd
    rw [h2] at h3
    have h4 : (((Nat.gcd a.natAbs b.natAbs : Nat) : Int) - 1) * b = 0 := by rw [Int.sub_mul]; omega
    rcases Int.mul_eq_zero.mp h4 with h5 | h5 <;> omega
  · intro h1
    rw [h1]
    simp
def cLawAny : Ct := fun ds S Q _ => ∃ v l, ds = [v] ∧ okD l v = true ∧ l ≤ sizeLine ∧ depD v ≤ 63 ∧ Q (.bl (isAny v)) S
def cLawFrac : Ct := fun ds S Q _ => ∃ v l, ds = [v] ∧ okD l v = true ∧ l ≤ sizeLine ∧ depD v ≤ 63 ∧ Q (.bl (isFrac v)) S
def cLawStr : Ct := fun ds S Q _ => ∃ v l, ds = [v] ∧ okD l v = true ∧ l ≤ sizeLine ∧ depD v ≤ 63 ∧ Q (.bl (isStr v)) S
theorem lawany_ok (ds : List D) (S : Store) (Q : D → Store → Prop) (E : QX) (h : cLawAny ds S Q E) : fs_law_is_any cMade (bodyEnds Q E) (startE N_law_is_any ds) S := by
  obtain ⟨v, l, rfl, hv, hl, hd, hq⟩ := h
  have hdat := okD_dat hv
  cases v with
  | tup xs =>
    have hx := okD_tup.mp hv
    by_cases h2 : xs.length = 2
    · obtain ⟨x, y, rfl⟩ := len2 h2
      have tst : ∀ d ∈ [x, y], ∀ Q : Bool → Store → Prop, Q (!isInt d) S → (orF (truT (biE isiB (consF (varF 1) (consF (ty! "bool") nilF)))) (notF (truT (biE isiB (consF (varF 1) (consF (ty! "int") nilF)))))) [some (.tup [x, y]), some d] S Q noX := by
        intro d hd Q hq
        have := okD_dat (hx.2 d hd)
        cases d <;> simp [datD] at this <;> simp [isInt] at hq <;> simp [seqS, setS, retS, retN, exprS, nilS, ifS, parS, asgS, bindT, bindTs, bindF, callC, varF, retF, consF, nilF, iteV, truF, truD, notF, andF, orF, andV, orV, notV, chF, chT, bodyEnds, startE, optF, idxF, slcF, intF, noF, newL, tyD, isiT, isiB, lenB, absB, intB, gcdB, tupB, lstB, ltG, leG, gtG, geG, isG, isnG, o2I, isO, getS, addF, subF, mulF, eqG_ii, neG_ii, neG_bb, fdivG, modG, powG, raiseS, wipeE] <;> exact hq
      have hs := sizeLine_eq
      simp [fs_law_is_any, seqS, setS, retS, retN, exprS, nilS, ifS, parS, asgS, bindT, bindTs, bindF, callC, varF, retF, consF, nilF, iteV, truF, truD, notF, andF, orF, andV, orV, notV, chF, chT, bodyEnds, startE, optF, idxF, slcF, intF, noF, newL, tyD, isiT, isiB, lenB, absB, intB, gcdB, tupB, lstB, ltG, leG, gtG, geG, isG, isnG, o2I, isO, getS, addF, subF, mulF, eqG_ii, neG_ii, neG_bb, fdivG, modG, powG, raiseS, wipeE, N_law_is_any]
      refine compF_val [x, y] (fun _ => True) (fun d => !isInt d) id (fun Q h => ?_) trivial (by rw [hs]; simp) (fun d hd => ⟨[some (.tup [x, y]), some d], rfl, tst d hd, fun _ Q hq => ?_⟩) ?_
      · simp [seqS, setS, retS, retN, exprS, nilS, ifS, parS, asgS, bindT, bindTs, bindF, callC, varF, retF, consF, nilF, iteV, truF, truD, notF, andF, orF, andV, orV, notV, chF, chT, bodyEnds, startE, optF, idxF, slcF, intF, noF, newL, tyD, isiT, isiB, lenB, absB, intB, gcdB, tupB, lstB, ltG, leG, gtG, geG, isG, isnG, o2I, isO, getS, addF, subF, mulF, eqG_ii, neG_ii, neG_bb, fdivG, modG, powG, raiseS, wipeE, itsF]; exact h
      · simp [seqS, setS, retS, retN, exprS, nilS, ifS, parS, asgS, bindT, bindTs, bindF, callC, varF, retF, consF, nilF, iteV, truF, truD, notF, andF, orF, andV, orV, notV, chF, chT, bodyEnds, startE, optF, idxF, slcF, intF, noF, newL, tyD, isiT, isiB, lenB, absB, intB, gcdB, tupB, lstB, ltG, leG, gtG, geG, isG, isnG, o2I, isO, getS, addF, subF, mulF, eqG_ii, neG_ii, neG_bb, fdivG, modG, powG, raiseS, wipeE]; exact hq
      · simp only [List.map_id]
        have hl0 : ((([x, y].filter fun d => !isInt d)).length : Nat) ≤ 2 := List.length_filter_le _ _
        refine neG_of ?_ rfl ?_ (by simp [depD, depDs]) ?_
        · have : ∀ d ∈ ([x, y].filter fun d => !isInt d), datD d = true := fun d hd => okD_dat (hx.2 d ((List.mem_filter.mp hd).1))
          have h3 : ∀ ds : List D, (∀ d ∈ ds, datD d = true) → datDs ds = true := by
            intro ds
            induction ds with
            | nil => intro _; rfl
            | cons d r ih => intro h; simp [datDs, h d (by simp), ih fun z hz => h z (by simp [hz])]
          simpa [datD] using h3 _ this
        · have h3 := depD_lst (n := 63) (ds := [x, y].filter fun d => !isInt d)
          exact h3.mpr fun d hd2 => by
            have := depD_mem hd ((List.mem_filter.mp hd2).1)
            omega
        · cases hxi : isInt x with
          | false =>
            have e : isAny (.tup [x, y]) = false := by
              unfold isAny
              split
              · rename_i q; cases q; simp [isInt] at hxi
              · rfl
            rw [e] at hq
            simp [hxi, eqD, eqDs, seqS, setS, retS, retN, exprS, nilS, ifS, parS, asgS, bindT, bindTs, bindF, callC, varF, retF, consF, nilF, iteV, truF, truD, notF, andF, orF, andV, orV, notV, chF, chT, bodyEnds, startE, optF, idxF, slcF, intF, noF, newL, tyD, isiT, isiB, lenB, absB, intB, gcdB, tupB, lstB, ltG, leG, gtG, geG, isG, isnG, o2I, isO, getS, addF, subF, mulF, eqG_ii, neG_ii, neG_bb, fdivG, modG, powG, raiseS, wipeE]
            exact hq
          | true =>
            cases hyi : isInt y with
            | false =>
              have e : isAny (.tup [x, y]) = false := by
                unfold isAny
                split
                · rename_i q; cases q; simp [isInt] at hyi
                · rfl
              rw [e] at hq
              simp [hxi, hyi, eqD, eqDs, seqS, setS, retS, retN, exprS, nilS, ifS, parS, asgS, bindT, bindTs, bindF, callC, varF, retF, consF, nilF, iteV, truF, truD, notF, andF, orF, andV, orV, notV, chF, chT, bodyEnds, startE, optF, idxF, slcF, intF, noF, newL, tyD, isiT, isiB, lenB, absB, intB, gcdB, tupB, lstB, ltG, leG, gtG, geG, isG, isnG, o2I, isO, getS, addF, subF, mulF, eqG_ii, neG_ii, neG_bb, fdivG, modG, powG, raiseS, wipeE]
              exact hq
            | true =>
              cases x <;> simp [isInt] at hxi
              cases y <;> simp [isInt] at hyi
              rename_i a b
              have kb := okD_int.mp (hx.2 (.int b) (by simp))
              simp [isInt, eqD, eqDs, seqS, setS, retS, retN, exprS, nilS, ifS, parS, asgS, bindT, bindTs, bindF, callC, varF, retF, consF, nilF, iteV, truF, truD, notF, andF, orF, andV, orV, notV, chF, chT, bodyEnds, startE, optF, idxF, slcF, intF, noF, newL, tyD, isiT, isiB, lenB, absB, intB, gcdB, tupB, lstB, ltG, leG, gtG, geG, isG, isnG, o2I, isO, getS, addF, subF, mulF, eqG_ii, neG_ii, neG_bb, fdivG, modG, powG, raiseS, wipeE, L2.atI, L2.ixN]
              by_cases h0 : 0 < b
              · simp [h0, seqS, setS, retS, retN, exprS, nilS, ifS, parS, asgS, bindT, bindTs, bindF, callC, varF, retF, consF, nilF, iteV, truF, truD, notF, andF, orF, andV, orV, notV, chF, chT, bodyEnds, startE, optF, idxF, slcF, intF, noF, newL, tyD, isiT, isiB, lenB, absB, intB, gcdB, tupB, lstB, ltG, leG, gtG, geG, isG, isnG, o2I, isO, getS, addF, subF, mulF, eqG_ii, neG_ii, neG_bb, fdivG, modG, powG, raiseS, wipeE, L2.atI, L2.ixN]
                refine ⟨a, b, rfl, h0, ?_, ?_⟩
                · have e : ((2 ^ 4000 : Nat) : Int) = 2 ^ 4000 := by simp
                  omega
                · refine eqG_of rfl hdat (by simp [madeD, depD, depDs]) (by omega) ?_
                  rw [eq_made h0]
                  simp [isAny, h0] at hq
                  exact hq
              · simp [isAny, h0] at hq
                simp [h0, seqS, setS, retS, retN, exprS, nilS, ifS, parS, asgS, bindT, bindTs, bindF, callC, varF, retF, consF, nilF, iteV, truF, truD, notF, andF, orF, andV, orV, notV, chF, chT, bodyEnds, startE, optF, idxF, slcF, intF, noF, newL, tyD, isiT, isiB, lenB, absB, intB, gcdB, tupB, lstB, ltG, leG, gtG, geG, isG, isnG, o2I, isO, getS, addF, subF, mulF, eqG_ii, neG_ii, neG_bb, fdivG, modG, powG, raiseS, wipeE]
                exact hq
    · have e : isAny (.tup xs) = false := by
        unfold isAny
        split
        · rename_i q; cases q; simp at h2
        · rfl
      rw [e] at hq
      have h3 : ¬ ((xs.length : Int) = 2) := by omega
      simp [fs_law_is_any, seqS, setS, retS, retN, exprS, nilS, ifS, parS, asgS, bindT, bindTs, bindF, callC, varF, retF, consF, nilF, iteV, truF, truD, notF, andF, orF, andV, orV, notV, chF, chT, bodyEnds, startE, optF, idxF, slcF, intF, noF, newL, tyD, isiT, isiB, lenB, absB, intB, gcdB, tupB, lstB, ltG, leG, gtG, geG, isG, isnG, o2I, isO, getS, addF, subF, mulF, eqG_ii, neG_ii, neG_bb, fdivG, modG, powG, raiseS, wipeE, N_law_is_any, h3]
      exact hq
  | _ => simp [datD] at hdat <;> simp [isAny] at hq <;> simp [fs_law_is_any, seqS, setS, retS, retN, exprS, nilS, ifS, parS, asgS, bindT, bindTs, bindF, callC, varF, retF, consF, nilF, iteV, truF, truD, notF, andF, orF, andV, orV, notV, chF, chT, bodyEnds, startE, optF, idxF, slcF, intF, noF, newL, tyD, isiT, isiB, lenB, absB, intB, gcdB, tupB, lstB, ltG, leG, gtG, geG, isG, isnG, o2I, isO, getS, addF, subF, mulF, eqG_ii, neG_ii, neG_bb, fdivG, modG, powG, raiseS, wipeE, N_law_is_any] <;> exact hq

theorem p7 : cPow 10 7 = true := by decide
theorem p11 : cPow 10 11 = true := by decide
theorem p12 : cPow 10 12 = true := by decide
theorem p18 : cPow 10 18 = true := by decide
theorem p50 : cPow 10 50 = true := by decide
theorem lawfrac_ok (ds : List D) (S : Store) (Q : D → Store → Prop) (E : QX) (h : cLawFrac ds S Q E) : fs_law_is_fraction cLawAny (bodyEnds Q E) (startE N_law_is_fraction ds) S := by
  obtain ⟨v, l, rfl, hv, hl, hd, hq⟩ := h
  simp [fs_law_is_fraction, seqS, setS, retS, retN, exprS, nilS, ifS, parS, asgS, bindT, bindTs, bindF, callC, varF, retF, consF, nilF, iteV, truF, truD, notF, andF, orF, andV, orV, notV, chF, chT, bodyEnds, startE, optF, idxF, slcF, intF, noF, newL, tyD, isiT, isiB, lenB, absB, intB, gcdB, tupB, lstB, ltG, leG, gtG, geG, isG, isnG, o2I, isO, getS, addF, subF, mulF, eqG_ii, neG_ii, neG_bb, fdivG, modG, powG, raiseS, wipeE, N_law_is_fraction]
  refine ⟨v, l, rfl, hv, hl, hd, ?_⟩
  by_cases ha : isAny v = true
  · simp [ha, seqS, setS, retS, retN, exprS, nilS, ifS, parS, asgS, bindT, bindTs, bindF, callC, varF, retF, consF, nilF, iteV, truF, truD, notF, andF, orF, andV, orV, notV, chF, chT, bodyEnds, startE, optF, idxF, slcF, intF, noF, newL, tyD, isiT, isiB, lenB, absB, intB, gcdB, tupB, lstB, ltG, leG, gtG, geG, isG, isnG, o2I, isO, getS, addF, subF, mulF, eqG_ii, neG_ii, neG_bb, fdivG, modG, powG, raiseS, wipeE]
    unfold isAny at ha
    split at ha
    · rename_i a b
      simp [isFrac] at hq ha
      simp [seqS, setS, retS, retN, exprS, nilS, ifS, parS, asgS, bindT, bindTs, bindF, callC, varF, retF, consF, nilF, iteV, truF, truD, notF, andF, orF, andV, orV, notV, chF, chT, bodyEnds, startE, optF, idxF, slcF, intF, noF, newL, tyD, isiT, isiB, lenB, absB, intB, gcdB, tupB, lstB, ltG, leG, gtG, geG, isG, isnG, o2I, isO, getS, addF, subF, mulF, eqG_ii, neG_ii, neG_bb, fdivG, modG, powG, raiseS, wipeE, L2.atI, L2.ixN, p12]
      by_cases hs : a.natAbs ≤ 1000000000000
      · simp [ha, hs] at hq
        have e2 : (if a < 0 then -a else a) ≤ 1000000000000 := by split <;> omega
        simp [e2, hs, seqS, setS, retS, retN, exprS, nilS, ifS, parS, asgS, bindT, bindTs, bindF, callC, varF, retF, consF, nilF, iteV, truF, truD, notF, andF, orF, andV, orV, notV, chF, chT, bodyEnds, startE, optF, idxF, slcF, intF, noF, newL, tyD, isiT, isiB, lenB, absB, intB, gcdB, tupB, lstB, ltG, leG, gtG, geG, isG, isnG, o2I, isO, getS, addF, subF, mulF, eqG_ii, neG_ii, neG_bb, fdivG, modG, powG, raiseS, wipeE, L2.atI, L2.ixN, p12]
        exact hq
      · simp [ha, hs] at hq
        have e2 : ¬ (if a < 0 then -a else a) ≤ 1000000000000 := by split <;> omega
        simp [e2, hs, seqS, setS, retS, retN, exprS, nilS, ifS, parS, asgS, bindT, bindTs, bindF, callC, varF, retF, consF, nilF, iteV, truF, truD, notF, andF, orF, andV, orV, notV, chF, chT, bodyEnds, startE, optF, idxF, slcF, intF, noF, newL, tyD, isiT, isiB, lenB, absB, intB, gcdB, tupB, lstB, ltG, leG, gtG, geG, isG, isnG, o2I, isO, getS, addF, subF, mulF, eqG_ii, neG_ii, neG_bb, fdivG, modG, powG, raiseS, wipeE, L2.atI, L2.ixN, p12]
        exact hq
    · cases ha
  · have e : isFrac v = false := by
      cases q : isFrac v with
      | false => rfl
      | true =>
        unfold isFrac at q
        split at q
        · simp at q
          exact absurd (by simp [isAny, q]) ha
        · cases q
    rw [e] at hq
    simp at ha
    simp [ha, seqS, setS, retS, retN, exprS, nilS, ifS, parS, asgS, bindT, bindTs, bindF, callC, varF, retF, consF, nilF, iteV, truF, truD, notF, andF, orF, andV, orV, notV, chF, chT, bodyEnds, startE, optF, idxF, slcF, intF, noF, newL, tyD, isiT, isiB, lenB, absB, intB, gcdB, tupB, lstB, ltG, leG, gtG, geG, isG, isnG, o2I, isO, getS, addF, subF, mulF, eqG_ii, neG_ii, neG_bb, fdivG, modG, powG, raiseS, wipeE]
    exact hq
def cLFrac : Ct := fun ds S Q _ => ∃ n, ds = [.obj n] ∧ Cup n S ∧ ∀ a b S', -9 ≤ a → a ≤ 9 → 1 ≤ b → b ≤ 5 → CupR n S S' → Q (madeD a b) S'
theorem lfrac_ok (ds : List D) (S : Store) (Q : D → Store → Prop) (E : QX) (h : cLFrac ds S Q E) : fs_law_fraction cMade cRoll (bodyEnds Q E) (startE N_law_fraction ds) S := by
  obtain ⟨n, rfl, hc, hq⟩ := h
  simp [fs_law_fraction, seqS, setS, retS, retN, exprS, nilS, ifS, parS, asgS, bindT, bindTs, bindF, callC, varF, retF, consF, nilF, iteV, truF, truD, notF, andF, orF, andV, orV, notV, chF, chT, bodyEnds, startE, optF, idxF, slcF, intF, noF, newL, tyD, isiT, isiB, lenB, absB, intB, gcdB, tupB, lstB, ltG, leG, gtG, geG, isG, isnG, o2I, isO, getS, addF, subF, mulF, eqG_ii, neG_ii, neG_bb, fdivG, modG, powG, raiseS, wipeE, N_law_fraction]
  refine ⟨n, 19, rfl, hc, by decide, by decide, fun k1 S1 h1 h2 r1 => ?_⟩
  simp [seqS, setS, retS, retN, exprS, nilS, ifS, parS, asgS, bindT, bindTs, bindF, callC, varF, retF, consF, nilF, iteV, truF, truD, notF, andF, orF, andV, orV, notV, chF, chT, bodyEnds, startE, optF, idxF, slcF, intF, noF, newL, tyD, isiT, isiB, lenB, absB, intB, gcdB, tupB, lstB, ltG, leG, gtG, geG, isG, isnG, o2I, isO, getS, addF, subF, mulF, eqG_ii, neG_ii, neG_bb, fdivG, modG, powG, raiseS, wipeE]
  refine ⟨n, 5, rfl, r1.cup, by decide, by decide, fun k2 S2 h3 h4 r2 => ?_⟩
  simp [seqS, setS, retS, retN, exprS, nilS, ifS, parS, asgS, bindT, bindTs, bindF, callC, varF, retF, consF, nilF, iteV, truF, truD, notF, andF, orF, andV, orV, notV, chF, chT, bodyEnds, startE, optF, idxF, slcF, intF, noF, newL, tyD, isiT, isiB, lenB, absB, intB, gcdB, tupB, lstB, ltG, leG, gtG, geG, isG, isnG, o2I, isO, getS, addF, subF, mulF, eqG_ii, neG_ii, neG_bb, fdivG, modG, powG, raiseS, wipeE]
  have h5 : (10 : Int) < 2 ^ 4000 := by decide
  exact ⟨_, _, rfl, by omega, by omega, hq _ _ _ (by omega) (by omega) (by omega) (by omega) (r1.trans r2)⟩
def cLCup : Ct := fun ds S Q _ => ∃ ns, ds = [.lst (scr ns)] ∧ ns.length ≤ 63 ∧ S = [] ∧ ∀ a b : Int, Q (.obj 0) [.lst [.int a, .int b]]
theorem cup_ok (ds : List D) (S : Store) (Q : D → Store → Prop) (E : QX) (h : cLCup ds S Q E) : fs_law_cup (bodyEnds Q E) (startE N_law_cup ds) S := by
  obtain ⟨ns, rfl, hl, rfl, hq⟩ := h
  have hs := sizeLine_eq
  have h1 : (scr ns).length + 1 ≤ sizeLine := by rw [hs]; simp [scr]; omega
  obtain ⟨z, t, hz⟩ : ∃ (z : Int) (t : List D), scr ns ++ [D.int 0] = .int z :: t := by
    cases ns with
    | nil => exact ⟨0, [], rfl⟩
    | cons a r => exact ⟨a, r.map .int ++ [.int 0], rfl⟩
  have hp : (0 : Int) < (t.length : Int) + 1 := by omega
  have m307 : ∀ z : Int, cMul z 307 = true := fun z => by unfold cMul; simp
  have d83 : ∀ z : Int, cDiv z 83 = true := fun z => by unfold cDiv; decide
  have hz2 : (2 : Nat) ≤ sizeLine := by rw [hs]; decide
  have hz1 : (1 : Nat) ≤ sizeLine := by rw [hs]; decide
  by_cases hc : 1000000000000000000 ≤ (if z < 0 then -z else z)
  · simp [fs_law_cup, seqS, setS, retS, retN, exprS, nilS, ifS, parS, asgS, bindT, bindTs, bindF, callC, varF, retF, consF, nilF, iteV, truF, truD, notF, andF, orF, andV, orV, notV, chF, chT, bodyEnds, startE, optF, idxF, slcF, intF, noF, newL, tyD, isiT, isiB, lenB, absB, intB, gcdB, tupB, lstB, ltG, leG, gtG, geG, isG, isnG, o2I, isO, getS, addF, subF, mulF, eqG_ii, neG_ii, neG_bb, fdivG, modG, powG, raiseS, wipeE, N_law_cup, h1, L2.atI, L2.ixN, hz, hp, m307, p18, hc, d83, hz2, hz1]
    exact hq _ _
  · simp [fs_law_cup, seqS, setS, retS, retN, exprS, nilS, ifS, parS, asgS, bindT, bindTs, bindF, callC, varF, retF, consF, nilF, iteV, truF, truD, notF, andF, orF, andV, orV, notV, chF, chT, bodyEnds, startE, optF, idxF, slcF, intF, noF, newL, tyD, isiT, isiB, lenB, absB, intB, gcdB, tupB, lstB, ltG, leG, gtG, geG, isG, isnG, o2I, isO, getS, addF, subF, mulF, eqG_ii, neG_ii, neG_bb, fdivG, modG, powG, raiseS, wipeE, N_law_cup, h1, L2.atI, L2.ixN, hz, hp, m307, p18, hc, d83, hz2, hz1]
    exact hq _ _

def menuL : List D := [.non, .tup [], .int 0, .int 1, .int (-1), .int 7, .int 13, .int 10000000, .bl true, .str "", .str "pi", .str "sqrt", .str "number", .tup [.int 0, .int 1], .tup [.int 2, .int 4], .tup [.int 1, .int 0],
  .tup [.str "pi"], .tup [.str "unknown"], .lst [.str "pi"], .tup [.str "number", .tup [.int 1, .int 2]], .tup [.int 1, .int 2, .int 0], .tup [.int 0, .int 0, .int 1]]
theorem menu_ok : ∀ d ∈ menuL, okD 3 d = true ∧ depD d ≤ 2 := by decide +kernel
def cSpoilt (dm : Nat) : Ct := fun ds S Q _ => ∃ n v l, ds = [.obj n, v] ∧ Cup n S ∧ okD l v = true ∧ depD v ≤ dm ∧ dm ≤ 50 ∧ 3 ≤ l ∧ l + dm ≤ 1000 ∧ ∀ r S', okD (l + dm + 1) r = true → depD r ≤ dm + 2 → CupR n S S' → Q r S'
theorem cut_to {xs : List D} {k : Int} (h : 0 ≤ k) : Dx.cutD xs none (some k) = xs.take k.toNat := by
  unfold Dx.cutD HT.sIx
  simp only [List.drop_zero, Nat.sub_zero]
  split
  · omega
  · rcases Nat.le_total k.toNat xs.length with h1 | h1
    · simp [Nat.min_eq_left h1]
    · simp [Nat.min_eq_right h1, List.take_of_length_le h1]
theorem cut_from {xs : List D} {k : Int} (h : 0 ≤ k) : Dx.cutD xs (some k) none = xs.drop k.toNat := by
  unfold Dx.cutD HT.sIx
  simp
  split
  · omega
  · rcases Nat.le_total k.toNat xs.length with h1 | h1
    · simp [Nat.min_eq_left h1]
      rw [List.take_of_length_le (by simp)]
    · simp [Nat.min_eq_right h1, List.drop_of_length_le h1]
theorem cut_sub {xs : List D} {lo hi : Option Int} : ∀ d ∈ Dx.cutD xs lo hi, d ∈ xs := fun d h => by
  unfold Dx.cutD at h
  exact List.mem_of_mem_drop (List.mem_of_mem_take h)
theorem cut_len {xs : List D} {lo hi : Option Int} : (Dx.cutD xs lo hi).length ≤ xs.length := by
  unfold Dx.cutD
  simp
  omega
theorem cut_one {xs : List D} {k : Int} (h : 0 ≤ k) : (Dx.cutD xs (some k) (some (k + 1))).length ≤ 1 := by
  unfold Dx.cutD HT.sIx
  simp
  split <;> split <;> omega
theorem spoilt_ok (dm : Nat) (c : Ct) (hcc : ∀ e, dm = e + 1 → c = cSpoilt e) (ds : List D) (S : Store) (Q : D → Store → Prop) (E : QX) (h : cSpoilt dm ds S Q E) : fs_law_spoilt cRoll cSome c (bodyEnds Q E) (startE N_law_spoilt ds) S := by
  obtain ⟨n, v, l, rfl, hc, hv, hd, hd50, hl, hl2, hq⟩ := h
  have hs := sizeLine_eq
  have hdat := okD_dat hv
  have key : ∀ S1, CupR n S S1 → ∀ d, d ∈ menuL → ∀ S', CupR n S1 S' → Q d S' := fun S1 r1 d hd S' r2 => by
    obtain ⟨h1, h2⟩ := menu_ok d hd
    exact hq d S' (okD_mono (by omega) h1) (by omega) (r1.trans r2)
  have z1 : ∀ k : Nat, k ≤ 100 → k ≤ sizeLine := fun k h => by omega
  cases v with
  | tup xs =>
    have hx := okD_tup.mp hv
    by_cases he : xs = []
    · subst he
      simp [fs_law_spoilt, seqS, setS, retS, retN, exprS, nilS, ifS, parS, asgS, bindT, bindTs, bindF, callC, varF, retF, consF, nilF, iteV, truF, truD, notF, andF, orF, andV, orV, notV, chF, chT, bodyEnds, startE, optF, idxF, slcF, intF, noF, newL, tyD, isiT, isiB, lenB, absB, intB, gcdB, tupB, lstB, ltG, leG, gtG, geG, isG, isnG, o2I, isO, getS, addF, subF, mulF, eqG_ii, neG_ii, neG_bb, fdivG, modG, powG, raiseS, wipeE, N_law_spoilt, z1, p7]
      refine eqG_of rfl rfl (by simp [depD, depDs]) (by simp [depD, depDs]) ?_
      simp [eqD, eqDs, seqS, setS, retS, retN, exprS, nilS, ifS, parS, asgS, bindT, bindTs, bindF, callC, varF, retF, consF, nilF, iteV, truF, truD, notF, andF, orF, andV, orV, notV, chF, chT, bodyEnds, startE, optF, idxF, slcF, intF, noF, newL, tyD, isiT, isiB, lenB, absB, intB, gcdB, tupB, lstB, ltG, leG, gtG, geG, isG, isnG, o2I, isO, getS, addF, subF, mulF, eqG_ii, neG_ii, neG_bb, fdivG, modG, powG, raiseS, wipeE]
      exact ⟨n, _, rfl, hc, by simp, by simp [z1], fun d S' hd r => key S (CupR.refl hc) d hd S' r⟩
    · have hp : 0 < xs.length := List.length_pos_iff.mpr he
      have hxl : xs.length ≤ 1000 := by omega
      simp [fs_law_spoilt, seqS, setS, retS, retN, exprS, nilS, ifS, parS, asgS, bindT, bindTs, bindF, callC, varF, retF, consF, nilF, iteV, truF, truD, notF, andF, orF, andV, orV, notV, chF, chT, bodyEnds, startE, optF, idxF, slcF, intF, noF, newL, tyD, isiT, isiB, lenB, absB, intB, gcdB, tupB, lstB, ltG, leG, gtG, geG, isG, isnG, o2I, isO, getS, addF, subF, mulF, eqG_ii, neG_ii, neG_bb, fdivG, modG, powG, raiseS, wipeE, N_law_spoilt, z1, p7]
      refine eqG_of hdat rfl (by omega) (by simp [depD, depDs]) ?_
      have en : eqD (.tup xs) (.tup []) = false := by
        cases xs with
        | nil => exact absurd rfl he
        | cons x t => rfl
      simp [en, seqS, setS, retS, retN, exprS, nilS, ifS, parS, asgS, bindT, bindTs, bindF, callC, varF, retF, consF, nilF, iteV, truF, truD, notF, andF, orF, andV, orV, notV, chF, chT, bodyEnds, startE, optF, idxF, slcF, intF, noF, newL, tyD, isiT, isiB, lenB, absB, intB, gcdB, tupB, lstB, ltG, leG, gtG, geG, isG, isnG, o2I, isO, getS, addF, subF, mulF, eqG_ii, neG_ii, neG_bb, fdivG, modG, powG, raiseS, wipeE]
      refine ⟨n, 6, rfl, hc, by decide, by decide, fun k S1 h0 h1 r1 => ?_⟩
      simp [seqS, setS, retS, retN, exprS, nilS, ifS, parS, asgS, bindT, bindTs, bindF, callC, varF, retF, consF, nilF, iteV, truF, truD, notF, andF, orF, andV, orV, notV, chF, chT, bodyEnds, startE, optF, idxF, slcF, intF, noF, newL, tyD, isiT, isiB, lenB, absB, intB, gcdB, tupB, lstB, ltG, leG, gtG, geG, isG, isnG, o2I, isO, getS, addF, subF, mulF, eqG_ii, neG_ii, neG_bb, fdivG, modG, powG, raiseS, wipeE]
      by_cases hk : k = 0
      · simp [hk, seqS, setS, retS, retN, exprS, nilS, ifS, parS, asgS, bindT, bindTs, bindF, callC, varF, retF, consF, nilF, iteV, truF, truD, notF, andF, orF, andV, orV, notV, chF, chT, bodyEnds, startE, optF, idxF, slcF, intF, noF, newL, tyD, isiT, isiB, lenB, absB, intB, gcdB, tupB, lstB, ltG, leG, gtG, geG, isG, isnG, o2I, isO, getS, addF, subF, mulF, eqG_ii, neG_ii, neG_bb, fdivG, modG, powG, raiseS, wipeE]
        exact ⟨n, _, rfl, r1.cup, by simp, by simp [z1], fun d S' hd r => key S1 r1 d hd S' r⟩
      · simp [hk, seqS, setS, retS, retN, exprS, nilS, ifS, parS, asgS, bindT, bindTs, bindF, callC, varF, retF, consF, nilF, iteV, truF, truD, notF, andF, orF, andV, orV, notV, chF, chT, bodyEnds, startE, optF, idxF, slcF, intF, noF, newL, tyD, isiT, isiB, lenB, absB, intB, gcdB, tupB, lstB, ltG, leG, gtG, geG, isG, isnG, o2I, isO, getS, addF, subF, mulF, eqG_ii, neG_ii, neG_bb, fdivG, modG, powG, raiseS, wipeE]
        refine ⟨n, xs.length, rfl, r1.cup, by omega, ?_, fun k1 S2 h2 h3 r2 => ?_⟩
        · have : (2 : Int) ^ 4000 > 2 ^ 30 := by decide
          omega
        · simp [seqS, setS, retS, retN, exprS, nilS, ifS, parS, asgS, bindT, bindTs, bindF, callC, varF, retF, consF, nilF, iteV, truF, truD, notF, andF, orF, andV, orV, notV, chF, chT, bodyEnds, startE, optF, idxF, slcF, intF, noF, newL, tyD, isiT, isiB, lenB, absB, intB, gcdB, tupB, lstB, ltG, leG, gtG, geG, isG, isnG, o2I, isO, getS, addF, subF, mulF, eqG_ii, neG_ii, neG_bb, fdivG, modG, powG, raiseS, wipeE]
          refine ⟨n, 9, rfl, r2.cup, by decide, by decide, fun k2 S3 h4 h5 r3 => ?_⟩
          simp [seqS, setS, retS, retN, exprS, nilS, ifS, parS, asgS, bindT, bindTs, bindF, callC, varF, retF, consF, nilF, iteV, truF, truD, notF, andF, orF, andV, orV, notV, chF, chT, bodyEnds, startE, optF, idxF, slcF, intF, noF, newL, tyD, isiT, isiB, lenB, absB, intB, gcdB, tupB, lstB, ltG, leG, gtG, geG, isG, isnG, o2I, isO, getS, addF, subF, mulF, eqG_ii, neG_ii, neG_bb, fdivG, modG, powG, raiseS, wipeE]
          have r0 := (r1.trans r2).trans r3
          have fin : ∀ ys : List D, ys.length ≤ xs.length + 1 → (∀ d ∈ ys, d ∈ xs) → Q (.tup ys) S3 := fun ys hy hm => hq _ S3 (okD_tup.mpr ⟨by omega, fun d hd => okD_mono (by omega) (hx.2 d (hm d hd))⟩)
            (by
              have := depD_tup (n := dm + 1) (ds := ys)
              refine this.mpr fun d hd2 => ?_
              have := depD_mem hd (hm d hd2)
              omega) r0
          have c1 := cut_to (xs := xs) h2
          by_cases hw : k2 < 2
          · simp [hw, seqS, setS, retS, retN, exprS, nilS, ifS, parS, asgS, bindT, bindTs, bindF, callC, varF, retF, consF, nilF, iteV, truF, truD, notF, andF, orF, andV, orV, notV, chF, chT, bodyEnds, startE, optF, idxF, slcF, intF, noF, newL, tyD, isiT, isiB, lenB, absB, intB, gcdB, tupB, lstB, ltG, leG, gtG, geG, isG, isnG, o2I, isO, getS, addF, subF, mulF, eqG_ii, neG_ii, neG_bb, fdivG, modG, powG, raiseS, wipeE]
            have c2 := cut_from (xs := xs) (k := k1 + k2) (by omega)
            have hq1 : (xs.take k1.toNat).length + (xs.drop (k1 + k2).toNat).length ≤ xs.length := by simp; omega
            rw [c1, c2]
            refine ⟨by omega, ?_⟩
            have sub1 : ∀ d ∈ xs.take k1.toNat ++ xs.drop (k1 + k2).toNat, d ∈ xs := fun d hd => by
              rcases List.mem_append.mp hd with h | h
              · exact List.mem_of_mem_take h
              · exact List.mem_of_mem_drop h
            by_cases hw0 : k2 = 0
            · subst hw0
              simp [seqS, setS, retS, retN, exprS, nilS, ifS, parS, asgS, bindT, bindTs, bindF, callC, varF, retF, consF, nilF, iteV, truF, truD, notF, andF, orF, andV, orV, notV, chF, chT, bodyEnds, startE, optF, idxF, slcF, intF, noF, newL, tyD, isiT, isiB, lenB, absB, intB, gcdB, tupB, lstB, ltG, leG, gtG, geG, isG, isnG, o2I, isO, getS, addF, subF, mulF, eqG_ii, neG_ii, neG_bb, fdivG, modG, powG, raiseS, wipeE]
              have c3 := cut_one (xs := xs) h2
              refine ⟨?_, ?_⟩
              · simp at hq1; omega
              · refine fin _ (by simp; omega) fun d hd => ?_
                rcases List.mem_append.mp hd with h | h
                · exact h
                · exact cut_sub d h
            · simp [hw0, seqS, setS, retS, retN, exprS, nilS, ifS, parS, asgS, bindT, bindTs, bindF, callC, varF, retF, consF, nilF, iteV, truF, truD, notF, andF, orF, andV, orV, notV, chF, chT, bodyEnds, startE, optF, idxF, slcF, intF, noF, newL, tyD, isiT, isiB, lenB, absB, intB, gcdB, tupB, lstB, ltG, leG, gtG, geG, isG, isnG, o2I, isO, getS, addF, subF, mulF, eqG_ii, neG_ii, neG_bb, fdivG, modG, powG, raiseS, wipeE]
              refine ⟨?_, ?_⟩
              · simp at hq1; omega
              · exact fin _ (by simp at hq1 ⊢; omega) sub1
          · simp [hw, seqS, setS, retS, retN, exprS, nilS, ifS, parS, asgS, bindT, bindTs, bindF, callC, varF, retF, consF, nilF, iteV, truF, truD, notF, andF, orF, andV, orV, notV, chF, chT, bodyEnds, startE, optF, idxF, slcF, intF, noF, newL, tyD, isiT, isiB, lenB, absB, intB, gcdB, tupB, lstB, ltG, leG, gtG, geG, isG, isnG, o2I, isO, getS, addF, subF, mulF, eqG_ii, neG_ii, neG_bb, fdivG, modG, powG, raiseS, wipeE]
            by_cases hw2 : k2 = 2
            · subst hw2
              simp [seqS, setS, retS, retN, exprS, nilS, ifS, parS, asgS, bindT, bindTs, bindF, callC, varF, retF, consF, nilF, iteV, truF, truD, notF, andF, orF, andV, orV, notV, chF, chT, bodyEnds, startE, optF, idxF, slcF, intF, noF, newL, tyD, isiT, isiB, lenB, absB, intB, gcdB, tupB, lstB, ltG, leG, gtG, geG, isG, isnG, o2I, isO, getS, addF, subF, mulF, eqG_ii, neG_ii, neG_bb, fdivG, modG, powG, raiseS, wipeE]
              exact hq _ S3 (okD_lst.mpr ⟨by omega, fun d hd => okD_mono (by omega) (hx.2 d hd)⟩) (by
                have := depD_lst (n := dm + 1) (ds := xs)
                refine this.mpr fun d hd2 => ?_
                have := depD_mem hd hd2
                omega) r0
            · simp [hw2, seqS, setS, retS, retN, exprS, nilS, ifS, parS, asgS, bindT, bindTs, bindF, callC, varF, retF, consF, nilF, iteV, truF, truD, notF, andF, orF, andV, orV, notV, chF, chT, bodyEnds, startE, optF, idxF, slcF, intF, noF, newL, tyD, isiT, isiB, lenB, absB, intB, gcdB, tupB, lstB, ltG, leG, gtG, geG, isG, isnG, o2I, isO, getS, addF, subF, mulF, eqG_ii, neG_ii, neG_bb, fdivG, modG, powG, raiseS, wipeE]
              obtain ⟨j, hj⟩ : ∃ j : Nat, k1 = j := ⟨k1.toNat, by omega⟩
              subst hj
              have hjl : j < xs.length := by omega
              have e : L2.atI xs (j : Int) = some xs[j] := by
                unfold L2.atI L2.ixN
                rw [if_pos h2, if_pos h3]
                simp [hjl]
              simp [e]
              have hm : xs[j] ∈ xs := List.getElem_mem hjl
              have hde := depD_mem hd hm
              obtain ⟨dm', rfl⟩ : ∃ e, dm = e + 1 := ⟨dm - 1, by omega⟩
              rw [hcc dm' rfl]
              refine ⟨n, xs[j], l, rfl, r3.cup, hx.2 _ hm, by omega, by omega, hl, by omega, fun r S4 hr1 hr2 r4 => ?_⟩
              have c2 := cut_from (xs := xs) (k := (j : Int) + 1) (by omega)
              simp [seqS, setS, retS, retN, exprS, nilS, ifS, parS, asgS, bindT, bindTs, bindF, callC, varF, retF, consF, nilF, iteV, truF, truD, notF, andF, orF, andV, orV, notV, chF, chT, bodyEnds, startE, optF, idxF, slcF, intF, noF, newL, tyD, isiT, isiB, lenB, absB, intB, gcdB, tupB, lstB, ltG, leG, gtG, geG, isG, isnG, o2I, isO, getS, addF, subF, mulF, eqG_ii, neG_ii, neG_bb, fdivG, modG, powG, raiseS, wipeE, c1, c2]
              refine ⟨by omega, by omega, ?_⟩
              have hl3 : (xs.take j ++ (r :: xs.drop (j + 1))).length ≤ l + (dm' + 1) + 1 := by
                rw [List.length_append, List.length_cons, List.length_take, List.length_drop]
                omega
              have hj1 : ((j : Int) + 1).toNat = j + 1 := by omega
              try rw [hj1]
              refine ⟨by omega, ?_⟩
              refine hq (.tup (xs.take j ++ (r :: xs.drop (j + 1)))) S4 (okD_tup.mpr ⟨hl3, fun d hd2 => ?_⟩) ?_ (r0.trans r4)
              · simp only [List.mem_append, List.mem_cons] at hd2
                rcases hd2 with h | rfl | h
                · exact okD_mono (by omega) (hx.2 d (List.mem_of_mem_take h))
                · exact okD_mono (by omega) hr1
                · exact okD_mono (by omega) (hx.2 d (List.mem_of_mem_drop h))
              · have := depD_tup (n := dm' + 2) (ds := xs.take j ++ r :: xs.drop (j + 1))
                refine this.mpr fun d hd2 => ?_
                simp only [List.mem_append, List.mem_cons] at hd2
                rcases hd2 with h | rfl | h
                · have := depD_mem hd (List.mem_of_mem_take h); omega
                · omega
                · have := depD_mem hd (List.mem_of_mem_drop h); omega
  | obj _ => simp [datD] at hdat
  | ty _ => simp [datD] at hdat
  | gl _ => simp [datD] at hdat
  | exv _ => simp [datD] at hdat
  | _ =>
    simp [fs_law_spoilt, seqS, setS, retS, retN, exprS, nilS, ifS, parS, asgS, bindT, bindTs, bindF, callC, varF, retF, consF, nilF, iteV, truF, truD, notF, andF, orF, andV, orV, notV, chF, chT, bodyEnds, startE, optF, idxF, slcF, intF, noF, newL, tyD, isiT, isiB, lenB, absB, intB, gcdB, tupB, lstB, ltG, leG, gtG, geG, isG, isnG, o2I, isO, getS, addF, subF, mulF, eqG_ii, neG_ii, neG_bb, fdivG, modG, powG, raiseS, wipeE, N_law_spoilt, z1, p7]
    exact ⟨n, _, rfl, hc, by simp, z1 22 (by decide), fun d S' hd r => key S (CupR.refl hc) d hd S' r⟩

theorem fdiv_abs {a : Int} {g : Nat} (hg : 0 < g) (hd : g ∣ a.natAbs) : (a.fdiv (g : Int)).natAbs = a.natAbs / g := by
  obtain ⟨c, hc⟩ := Int.ofNat_dvd_left.mpr hd
  rw [hc, Int.mul_fdiv_cancel_left _ (by omega)]
  rw [Int.natAbs_mul, Int.natAbs_natCast, Nat.mul_div_cancel_left _ hg]
theorem made_form {a b : Int} (h : 0 < b) : ∃ x y : Int, madeD a b = .tup [.int x, .int y] ∧ 0 < y ∧ y ≤ b ∧ x.natAbs ≤ a.natAbs ∧ Nat.gcd x.natAbs y.natAbs = 1 := by
  have hg := gcd_pos (a := a) h
  have h1 := fdiv_abs (a := a) hg (Nat.gcd_dvd_left _ _)
  have h2 := fdiv_abs (a := b) hg (Nat.gcd_dvd_right _ _)
  refine ⟨_, _, rfl, ?_, ?_, ?_, ?_⟩
  · rw [Int.fdiv_eq_ediv_of_nonneg _ (by omega)]
    have hd : ((Nat.gcd a.natAbs b.natAbs : Nat) : Int) ∣ b := Int.gcd_dvd_right ..
    exact Int.ediv_pos_of_pos_of_dvd h (by omega) hd
  · rw [Int.fdiv_eq_ediv_of_nonneg _ (by omega)]
    exact Int.ediv_le_self _ (by omega)
  · rw [h1]
    exact Nat.div_le_self _ _
  · rw [h1, h2]
    exact Nat.gcd_div_gcd_div_gcd_of_pos_right (by omega)
theorem made_ok2 {a b : Int} (h : 0 < b) (ha : a.natAbs ≤ 1000000000000) (hb : b ≤ 1000000000000) (l : Nat) (hl : 2 ≤ l) : okD l (madeD a b) = true ∧ depD (madeD a b) ≤ 1 ∧ isFrac (madeD a b) = true ∧ isAny (madeD a b) = true := by
  obtain ⟨x, y, e, h1, h2, h3, h4⟩ := made_form (a := a) h
  rw [e]
  have hp : 1000000000000 < 2 ^ 4000 := by decide
  refine ⟨okD_tup.mpr ⟨by simpa using hl, fun d hd => ?_⟩, by simp [depD, depDs], ?_, ?_⟩
  · simp at hd
    rcases hd with rfl | rfl
    · exact okD_int.mpr (by omega)
    · exact okD_int.mpr (by omega)
  · simp [isFrac, h1, h4]; omega
  · simp [isAny, h1, h4]
abbrev cupT (s t o u w d x y : Option D) : Dx.Env := [s, some (.obj 0), t, o, u, w, d, x, y]
end LawX

set_option Elab.async false
set_option linter.all false
set_option maxRecDepth 100000
set_option maxHeartbeats 0
set_option exponentiation.threshold 5000
namespace LawX
open PySem PySem.Spec PyProof.Rows L2 Dx
/-! ### words in lists -/
theorem anyB_in {x : D} {ds : List D} {τ : Dx.Env} {S : Store} {Q : D → Store → Prop} {E : QX} (hx : datD x = true) (dx : depD x ≤ 64) (hd : datDs ds = true) (dd : depDs ds ≤ 63) :
    inG x (.tup ds) τ S Q E = Q (.bl (ds.any fun z => eqD z x)) S ∧ inG x (.lst ds) τ S Q E = Q (.bl (ds.any fun z => eqD z x)) S ∧ ninG x (.tup ds) τ S Q E = Q (.bl (!ds.any fun z => eqD z x)) S := by
  have h1 : cmpOk (.tup ds) = true := by simp [cmpOk, datD, hd, depD]; omega
  have h2 : cmpOk (.lst ds) = true := by simp [cmpOk, datD, hd, depD]; omega
  have h3 : cmpOk x = true := by simp [cmpOk, hx]; omega
  have g := dat_get S hx
  have gt : getS S (.tup ds) = .tup ds := rfl
  have gl : getS S (.lst ds) = .lst ds := rfl
  refine ⟨?_, ?_, ?_⟩
  · simp [inG, optF, inO, seqD, g, gt, h1, h3]
  · simp [inG, optF, inO, seqD, g, gl, h2, h3]
  · simp [ninG, optF, inO, seqD, g, gt, h1, h3]
theorem eqG_ss {a b : Str} {τ : Dx.Env} {S : Store} {Q : D → Store → Prop} {E : QX} (ha : datD (.str a) = true) (hb : datD (.str b) = true) : eqG (.str a) (.str b) τ S Q E = Q (.bl (a == b)) S := by
  unfold eqG optF
  rw [eqO_of ha hb (by simp [depD]) (by simp [depD])]
  simp only [eqD]
theorem neG_ss {a b : Str} {τ : Dx.Env} {S : Store} {Q : D → Store → Prop} {E : QX} (ha : datD (.str a) = true) (hb : datD (.str b) = true) : neG (.str a) (.str b) τ S Q E = Q (.bl (!(a == b))) S := by
  unfold neG optF
  rw [neO_of ha hb (by simp [depD]) (by simp [depD])]
  simp only [eqD]
/-! ### lines -/
def lastB (xs : List D) : Bool := match xs.getLast? with
  | none => true
  | some (.int i) => decide (i ≠ 0)
  | some _ => false
def lineB : D → Bool
  | .tup xs => decide (xs.length ≤ 9) && (xs.all (fun d => wholeB d (-1000000) 1000000) && lastB xs)
  | _ => false
theorem allSome_map {f : D → Bool} : ∀ {ds : List D}, allSome asBl (ds.map fun d => .bl (f d)) = some (ds.map f)
  | [] => rfl
  | d :: ds => by simp [allSome, asBl, allSome_map (ds := ds)]
theorem ixN_last {n : Nat} (h : 0 < n) : L2.ixN n (-1) = some (n - 1) := by
  unfold L2.ixN
  rw [if_neg (by omega), if_pos (by omega)]
  congr 1
  omega
theorem last_at {xs : List D} (h : xs ≠ []) : ∃ d, L2.atI xs (-1) = some d ∧ d ∈ xs ∧ ∀ i, d = .int i → lastB xs = decide (i ≠ 0) := by
  have hp : 0 < xs.length := List.length_pos_iff.mpr h
  have e : L2.atI xs (-1) = xs.getLast? := by
    unfold L2.atI
    rw [ixN_last hp, List.getLast?_eq_getElem?]
    rfl
  refine ⟨xs.getLast h, by rw [e, List.getLast?_eq_some_getLast h], List.getLast_mem h, fun i hi => ?_⟩
  unfold lastB
  rw [List.getLast?_eq_some_getLast h, hi]
def cLine : Ct := fun ds S Q _ => ∃ v l, ds = [v] ∧ okD l v = true ∧ l ≤ 10000 ∧ Q (.bl (lineB v)) S
theorem whole_int {d : D} {a b : Int} (h : wholeB d a b = true) : ∃ i, d = .int i ∧ a ≤ i ∧ i ≤ b := by
  unfold wholeB at h
  split at h
  · rename_i i
    simp at h
    exact ⟨i, rfl, h.1, h.2⟩
  · cases h
theorem line_ok (ds : List D) (S : Store) (Q : D → Store → Prop) (E : QX) (h : cLine ds S Q E) : fsfits_line cIsTup cWhole (bodyEnds Q E) (startE Nfits_line ds) S := by
  obtain ⟨v, l, rfl, hv, hl, hq⟩ := h
  have hs := sizeLine_eq
  have hd := okD_dat hv
  simp [fsfits_line, seqS, setS, retS, retN, exprS, nilS, ifS, parS, asgS, bindT, bindTs, bindF, callC, varF, retF, consF, nilF, iteV, truF, truD, notF, andF, orF, andV, orV, notV, chF, chT, bodyEnds, startE, optF, idxF, slcF, intF, noF, newL, tyD, isiT, isiB, lenB, absB, intB, gcdB, tupB, lstB, ltG, leG, gtG, geG, isG, isnG, o2I, isO, getS, addF, subF, mulF, eqG_ii, neG_ii, neG_bb, fdivG, modG, powG, raiseS, wipeE, Nfits_line]
  refine ⟨v, 0, 9, rfl, hd, ?_⟩
  cases v with
  | tup xs =>
    have hx := okD_tup.mp hv
    by_cases h9 : xs.length ≤ 9
    · have e9 : decide ((xs.length : Int) ≤ 9) = true := by simp; omega
      simp [e9, seqS, setS, retS, retN, exprS, nilS, ifS, parS, asgS, bindT, bindTs, bindF, callC, varF, retF, consF, nilF, iteV, truF, truD, notF, andF, orF, andV, orV, notV, chF, chT, bodyEnds, startE, optF, idxF, slcF, intF, noF, newL, tyD, isiT, isiB, lenB, absB, intB, gcdB, tupB, lstB, ltG, leG, gtG, geG, isG, isnG, o2I, isO, getS, addF, subF, mulF, eqG_ii, neG_ii, neG_bb, fdivG, modG, powG, raiseS, wipeE]
      refine compF_val xs (fun _ => True) (fun _ => true) (fun d => .bl (wholeB d (-1000000) 1000000)) (fun Q h => ?_) trivial (by omega) (fun d hd => ⟨_, rfl, fun Q h => h, fun _ Q h => ?_⟩) ?_
      · simp [seqS, setS, retS, retN, exprS, nilS, ifS, parS, asgS, bindT, bindTs, bindF, callC, varF, retF, consF, nilF, iteV, truF, truD, notF, andF, orF, andV, orV, notV, chF, chT, bodyEnds, startE, optF, idxF, slcF, intF, noF, newL, tyD, isiT, isiB, lenB, absB, intB, gcdB, tupB, lstB, ltG, leG, gtG, geG, isG, isnG, o2I, isO, getS, addF, subF, mulF, eqG_ii, neG_ii, neG_bb, fdivG, modG, powG, raiseS, wipeE, itsF]; exact h
      · simp [seqS, setS, retS, retN, exprS, nilS, ifS, parS, asgS, bindT, bindTs, bindF, callC, varF, retF, consF, nilF, iteV, truF, truD, notF, andF, orF, andV, orV, notV, chF, chT, bodyEnds, startE, optF, idxF, slcF, intF, noF, newL, tyD, isiT, isiB, lenB, absB, intB, gcdB, tupB, lstB, ltG, leG, gtG, geG, isG, isnG, o2I, isO, getS, addF, subF, mulF, eqG_ii, neG_ii, neG_bb, fdivG, modG, powG, raiseS, wipeE]
        exact ⟨d, _, _, rfl, okD_dat (hx.2 d hd), h⟩
      · have ef : xs.filter (fun _ => true) = xs := by simp
        rw [ef]
        simp [Dx.allB, allSome_map, seqS, setS, retS, retN, exprS, nilS, ifS, parS, asgS, bindT, bindTs, bindF, callC, varF, retF, consF, nilF, iteV, truF, truD, notF, andF, orF, andV, orV, notV, chF, chT, bodyEnds, startE, optF, idxF, slcF, intF, noF, newL, tyD, isiT, isiB, lenB, absB, intB, gcdB, tupB, lstB, ltG, leG, gtG, geG, isG, isnG, o2I, isO, getS, addF, subF, mulF, eqG_ii, neG_ii, neG_bb, fdivG, modG, powG, raiseS, wipeE]
        by_cases ha : xs.all (fun d => wholeB d (-1000000) 1000000) = true
        · have ha' : ∀ d ∈ xs, wholeB d (-1000000) 1000000 = true := by simpa using ha
          simp only [lineB, h9, ha, decide_true, Bool.true_and] at hq
          rw [if_pos ha']
          refine eqG_of hd rfl (by
            have : depD (.tup xs) ≤ 1 := depD_tup.mpr fun d hd => by
              obtain ⟨i, rfl, _⟩ := whole_int (ha' d hd)
              simp [depD]
            omega) (by simp [depD, depDs]) ?_
          cases xs with
          | nil =>
            simp [eqD, eqDs, seqS, setS, retS, retN, exprS, nilS, ifS, parS, asgS, bindT, bindTs, bindF, callC, varF, retF, consF, nilF, iteV, truF, truD, notF, andF, orF, andV, orV, notV, chF, chT, bodyEnds, startE, optF, idxF, slcF, intF, noF, newL, tyD, isiT, isiB, lenB, absB, intB, gcdB, tupB, lstB, ltG, leG, gtG, geG, isG, isnG, o2I, isO, getS, addF, subF, mulF, eqG_ii, neG_ii, neG_bb, fdivG, modG, powG, raiseS, wipeE]
            exact hq
          | cons x t =>
            simp [eqD, eqDs, seqS, setS, retS, retN, exprS, nilS, ifS, parS, asgS, bindT, bindTs, bindF, callC, varF, retF, consF, nilF, iteV, truF, truD, notF, andF, orF, andV, orV, notV, chF, chT, bodyEnds, startE, optF, idxF, slcF, intF, noF, newL, tyD, isiT, isiB, lenB, absB, intB, gcdB, tupB, lstB, ltG, leG, gtG, geG, isG, isnG, o2I, isO, getS, addF, subF, mulF, eqG_ii, neG_ii, neG_bb, fdivG, modG, powG, raiseS, wipeE]
            obtain ⟨d, h1, h2, h3⟩ := last_at (xs := x :: t) (by simp)
            obtain ⟨i, rfl, _⟩ := whole_int (ha' d h2)
            rw [h3 i rfl] at hq
            simp [h1, seqS, setS, retS, retN, exprS, nilS, ifS, parS, asgS, bindT, bindTs, bindF, callC, varF, retF, consF, nilF, iteV, truF, truD, notF, andF, orF, andV, orV, notV, chF, chT, bodyEnds, startE, optF, idxF, slcF, intF, noF, newL, tyD, isiT, isiB, lenB, absB, intB, gcdB, tupB, lstB, ltG, leG, gtG, geG, isG, isnG, o2I, isO, getS, addF, subF, mulF, eqG_ii, neG_ii, neG_bb, fdivG, modG, powG, raiseS, wipeE]
            simpa using hq
        · have e : lineB (.tup xs) = false := by simp only [lineB, ha, Bool.false_and, Bool.and_false]
          rw [e] at hq
          rw [if_neg (fun h => ha (by simpa using h))]
          exact hq
    · have e9 : decide ((xs.length : Int) ≤ 9) = false := by simp; omega
      simp [lineB, h9] at hq
      simp [e9, seqS, setS, retS, retN, exprS, nilS, ifS, parS, asgS, bindT, bindTs, bindF, callC, varF, retF, consF, nilF, iteV, truF, truD, notF, andF, orF, andV, orV, notV, chF, chT, bodyEnds, startE, optF, idxF, slcF, intF, noF, newL, tyD, isiT, isiB, lenB, absB, intB, gcdB, tupB, lstB, ltG, leG, gtG, geG, isG, isnG, o2I, isO, getS, addF, subF, mulF, eqG_ii, neG_ii, neG_bb, fdivG, modG, powG, raiseS, wipeE]
      exact hq
  | _ => simp [lineB] at hq; simp [seqS, setS, retS, retN, exprS, nilS, ifS, parS, asgS, bindT, bindTs, bindF, callC, varF, retF, consF, nilF, iteV, truF, truD, notF, andF, orF, andV, orV, notV, chF, chT, bodyEnds, startE, optF, idxF, slcF, intF, noF, newL, tyD, isiT, isiB, lenB, absB, intB, gcdB, tupB, lstB, ltG, leG, gtG, geG, isG, isnG, o2I, isO, getS, addF, subF, mulF, eqG_ii, neG_ii, neG_bb, fdivG, modG, powG, raiseS, wipeE]; exact hq
/-- the law's own line -/
theorem lwhole_ok (ds : List D) (S : Store) (Q : D → Store → Prop) (E : QX) (h : cWhole ds S Q E) : fs_law_is_whole (bodyEnds Q E) (startE N_law_is_whole ds) S := by
  obtain ⟨v, a, b, rfl, hv, hq⟩ := h
  cases v with
  | int i =>
    simp [wholeB] at hq
    by_cases h1 : a ≤ i
    · simp [h1] at hq
      simp [fs_law_is_whole, seqS, setS, retS, retN, exprS, nilS, ifS, parS, asgS, bindT, bindTs, bindF, callC, varF, retF, consF, nilF, iteV, truF, truD, notF, andF, orF, andV, orV, notV, chF, chT, bodyEnds, startE, optF, idxF, slcF, intF, noF, newL, tyD, isiT, isiB, lenB, absB, intB, gcdB, tupB, lstB, ltG, leG, gtG, geG, isG, isnG, o2I, isO, getS, addF, subF, mulF, eqG_ii, neG_ii, neG_bb, fdivG, modG, powG, raiseS, wipeE, N_law_is_whole, h1]
      exact hq
    · simp [h1] at hq
      simp [fs_law_is_whole, seqS, setS, retS, retN, exprS, nilS, ifS, parS, asgS, bindT, bindTs, bindF, callC, varF, retF, consF, nilF, iteV, truF, truD, notF, andF, orF, andV, orV, notV, chF, chT, bodyEnds, startE, optF, idxF, slcF, intF, noF, newL, tyD, isiT, isiB, lenB, absB, intB, gcdB, tupB, lstB, ltG, leG, gtG, geG, isG, isnG, o2I, isO, getS, addF, subF, mulF, eqG_ii, neG_ii, neG_bb, fdivG, modG, powG, raiseS, wipeE, N_law_is_whole, h1]
      exact hq
  | _ => simp [datD] at hv <;> simp [wholeB] at hq <;> simp [fs_law_is_whole, seqS, setS, retS, retN, exprS, nilS, ifS, parS, asgS, bindT, bindTs, bindF, callC, varF, retF, consF, nilF, iteV, truF, truD, notF, andF, orF, andV, orV, notV, chF, chT, bodyEnds, startE, optF, idxF, slcF, intF, noF, newL, tyD, isiT, isiB, lenB, absB, intB, gcdB, tupB, lstB, ltG, leG, gtG, geG, isG, isnG, o2I, isO, getS, addF, subF, mulF, eqG_ii, neG_ii, neG_bb, fdivG, modG, powG, raiseS, wipeE, N_law_is_whole] <;> exact hq
theorem p6 : cPow 10 6 = true := by decide
def cLLine : Ct := fun ds S Q _ => ∃ v l, ds = [v] ∧ okD l v = true ∧ l ≤ 10000 ∧ depD v ≤ 60 ∧ Q (.bl (lineB v)) S
theorem llwhole_len {xs : List D} {p : D → Bool} : (xs.filter p).length ≤ xs.length := List.length_filter_le _ _
theorem filt_dat {xs : List D} {p : D → Bool} {l n : Nat} (h : ∀ d ∈ xs, okD l d = true) (hd : ∀ d ∈ xs, depD d ≤ n) : datD (.lst (xs.filter p)) = true ∧ depD (.lst (xs.filter p)) ≤ n + 1 := by
  have h3 : ∀ ds : List D, (∀ d ∈ ds, datD d = true) → datDs ds = true := by
    intro ds
    induction ds with
    | nil => intro _; rfl
    | cons d r ih => intro h; simp [datDs, h d (by simp), ih fun z hz => h z (by simp [hz])]
  refine ⟨?_, depD_lst.mpr fun d hd2 => hd d (List.mem_filter.mp hd2).1⟩
  simpa [datD] using h3 _ fun d hd2 => okD_dat (h d (List.mem_filter.mp hd2).1)
theorem nil_eq {xs : List D} {p : D → Bool} : eqD (.lst (xs.filter p)) (.lst []) = !xs.any p := by
  have e : ∀ ys : List D, eqD (.lst ys) (.lst []) = ys.isEmpty := fun ys => by cases ys <;> rfl
  rw [e]
  induction xs with
  | nil => rfl
  | cons x t ih =>
    cases hp : p x with
    | true => simp [hp]
    | false => simp [hp] at ih ⊢; exact ih
theorem lline_ok (ds : List D) (S : Store) (Q : D → Store → Prop) (E : QX) (h : cLLine ds S Q E) : fs_law_is_line cWhole (bodyEnds Q E) (startE N_law_is_line ds) S := by
  obtain ⟨v, l, rfl, hv, hl, hdp, hq⟩ := h
  have hs := sizeLine_eq
  have hd := okD_dat hv
  cases v with
  | tup xs =>
    have hx := okD_tup.mp hv
    by_cases h9 : xs.length ≤ 9
    · have e9 : ¬ (9 : Int) < xs.length := by omega
      simp [fs_law_is_line, seqS, setS, retS, retN, exprS, nilS, ifS, parS, asgS, bindT, bindTs, bindF, callC, varF, retF, consF, nilF, iteV, truF, truD, notF, andF, orF, andV, orV, notV, chF, chT, bodyEnds, startE, optF, idxF, slcF, intF, noF, newL, tyD, isiT, isiB, lenB, absB, intB, gcdB, tupB, lstB, ltG, leG, gtG, geG, isG, isnG, o2I, isO, getS, addF, subF, mulF, eqG_ii, neG_ii, neG_bb, fdivG, modG, powG, raiseS, wipeE, N_law_is_line, e9, p6]
      refine compF_val xs (fun _ => True) (fun d => !wholeB d (-1000000) 1000000) id (fun Q h => ?_) trivial (by omega) (fun d hd => ⟨_, rfl, fun Q h => ?_, fun _ Q h => ?_⟩) ?_
      · simp [seqS, setS, retS, retN, exprS, nilS, ifS, parS, asgS, bindT, bindTs, bindF, callC, varF, retF, consF, nilF, iteV, truF, truD, notF, andF, orF, andV, orV, notV, chF, chT, bodyEnds, startE, optF, idxF, slcF, intF, noF, newL, tyD, isiT, isiB, lenB, absB, intB, gcdB, tupB, lstB, ltG, leG, gtG, geG, isG, isnG, o2I, isO, getS, addF, subF, mulF, eqG_ii, neG_ii, neG_bb, fdivG, modG, powG, raiseS, wipeE, itsF]; exact h
      · simp [seqS, setS, retS, retN, exprS, nilS, ifS, parS, asgS, bindT, bindTs, bindF, callC, varF, retF, consF, nilF, iteV, truF, truD, notF, andF, orF, andV, orV, notV, chF, chT, bodyEnds, startE, optF, idxF, slcF, intF, noF, newL, tyD, isiT, isiB, lenB, absB, intB, gcdB, tupB, lstB, ltG, leG, gtG, geG, isG, isnG, o2I, isO, getS, addF, subF, mulF, eqG_ii, neG_ii, neG_bb, fdivG, modG, powG, raiseS, wipeE, p6]
        refine ⟨d, _, _, rfl, okD_dat (hx.2 d hd), ?_⟩
        simp [seqS, setS, retS, retN, exprS, nilS, ifS, parS, asgS, bindT, bindTs, bindF, callC, varF, retF, consF, nilF, iteV, truF, truD, notF, andF, orF, andV, orV, notV, chF, chT, bodyEnds, startE, optF, idxF, slcF, intF, noF, newL, tyD, isiT, isiB, lenB, absB, intB, gcdB, tupB, lstB, ltG, leG, gtG, geG, isG, isnG, o2I, isO, getS, addF, subF, mulF, eqG_ii, neG_ii, neG_bb, fdivG, modG, powG, raiseS, wipeE]
        exact h
      · simp [seqS, setS, retS, retN, exprS, nilS, ifS, parS, asgS, bindT, bindTs, bindF, callC, varF, retF, consF, nilF, iteV, truF, truD, notF, andF, orF, andV, orV, notV, chF, chT, bodyEnds, startE, optF, idxF, slcF, intF, noF, newL, tyD, isiT, isiB, lenB, absB, intB, gcdB, tupB, lstB, ltG, leG, gtG, geG, isG, isnG, o2I, isO, getS, addF, subF, mulF, eqG_ii, neG_ii, neG_bb, fdivG, modG, powG, raiseS, wipeE]; exact h
      · obtain ⟨f1, f2⟩ := filt_dat (p := fun d => !wholeB d (-1000000) 1000000) hx.2 (n := 60) (fun d hd2 => by have := depD_mem hdp hd2; omega)
        simp only [List.map_id]
        refine neG_of f1 rfl (by omega) (by simp [depD, depDs]) ?_
        rw [nil_eq]
        by_cases ha : xs.all (fun d => wholeB d (-1000000) 1000000) = true
        · have ha' : ∀ d ∈ xs, wholeB d (-1000000) 1000000 = true := by simpa using ha
          have en : (xs.any fun d => !wholeB d (-1000000) 1000000) = false := by simpa using ha'
          simp only [lineB, h9, ha, decide_true, Bool.true_and] at hq
          simp [en, seqS, setS, retS, retN, exprS, nilS, ifS, parS, asgS, bindT, bindTs, bindF, callC, varF, retF, consF, nilF, iteV, truF, truD, notF, andF, orF, andV, orV, notV, chF, chT, bodyEnds, startE, optF, idxF, slcF, intF, noF, newL, tyD, isiT, isiB, lenB, absB, intB, gcdB, tupB, lstB, ltG, leG, gtG, geG, isG, isnG, o2I, isO, getS, addF, subF, mulF, eqG_ii, neG_ii, neG_bb, fdivG, modG, powG, raiseS, wipeE]
          refine eqG_of hd rfl (by omega) (by simp [depD, depDs]) ?_
          cases xs with
          | nil =>
            simp [eqD, eqDs, seqS, setS, retS, retN, exprS, nilS, ifS, parS, asgS, bindT, bindTs, bindF, callC, varF, retF, consF, nilF, iteV, truF, truD, notF, andF, orF, andV, orV, notV, chF, chT, bodyEnds, startE, optF, idxF, slcF, intF, noF, newL, tyD, isiT, isiB, lenB, absB, intB, gcdB, tupB, lstB, ltG, leG, gtG, geG, isG, isnG, o2I, isO, getS, addF, subF, mulF, eqG_ii, neG_ii, neG_bb, fdivG, modG, powG, raiseS, wipeE]
            exact hq
          | cons x t =>
            simp [eqD, eqDs, seqS, setS, retS, retN, exprS, nilS, ifS, parS, asgS, bindT, bindTs, bindF, callC, varF, retF, consF, nilF, iteV, truF, truD, notF, andF, orF, andV, orV, notV, chF, chT, bodyEnds, startE, optF, idxF, slcF, intF, noF, newL, tyD, isiT, isiB, lenB, absB, intB, gcdB, tupB, lstB, ltG, leG, gtG, geG, isG, isnG, o2I, isO, getS, addF, subF, mulF, eqG_ii, neG_ii, neG_bb, fdivG, modG, powG, raiseS, wipeE]
            obtain ⟨d, h1, h2, h3⟩ := last_at (xs := x :: t) (by simp)
            obtain ⟨i, rfl, _⟩ := whole_int (ha' d h2)
            rw [h3 i rfl] at hq
            simp [h1, seqS, setS, retS, retN, exprS, nilS, ifS, parS, asgS, bindT, bindTs, bindF, callC, varF, retF, consF, nilF, iteV, truF, truD, notF, andF, orF, andV, orV, notV, chF, chT, bodyEnds, startE, optF, idxF, slcF, intF, noF, newL, tyD, isiT, isiB, lenB, absB, intB, gcdB, tupB, lstB, ltG, leG, gtG, geG, isG, isnG, o2I, isO, getS, addF, subF, mulF, eqG_ii, neG_ii, neG_bb, fdivG, modG, powG, raiseS, wipeE]
            simpa using hq
        · have en : (xs.any fun d => !wholeB d (-1000000) 1000000) = true := by simpa using ha
          have e : lineB (.tup xs) = false := by simp only [lineB, ha, Bool.false_and, Bool.and_false]
          rw [e] at hq
          simp [en, seqS, setS, retS, retN, exprS, nilS, ifS, parS, asgS, bindT, bindTs, bindF, callC, varF, retF, consF, nilF, iteV, truF, truD, notF, andF, orF, andV, orV, notV, chF, chT, bodyEnds, startE, optF, idxF, slcF, intF, noF, newL, tyD, isiT, isiB, lenB, absB, intB, gcdB, tupB, lstB, ltG, leG, gtG, geG, isG, isnG, o2I, isO, getS, addF, subF, mulF, eqG_ii, neG_ii, neG_bb, fdivG, modG, powG, raiseS, wipeE]
          exact hq
    · have e9 : (9 : Int) < xs.length := by omega
      simp [lineB, h9] at hq
      simp [fs_law_is_line, seqS, setS, retS, retN, exprS, nilS, ifS, parS, asgS, bindT, bindTs, bindF, callC, varF, retF, consF, nilF, iteV, truF, truD, notF, andF, orF, andV, orV, notV, chF, chT, bodyEnds, startE, optF, idxF, slcF, intF, noF, newL, tyD, isiT, isiB, lenB, absB, intB, gcdB, tupB, lstB, ltG, leG, gtG, geG, isG, isnG, o2I, isO, getS, addF, subF, mulF, eqG_ii, neG_ii, neG_bb, fdivG, modG, powG, raiseS, wipeE, N_law_is_line, e9, p6]
      exact hq
  | _ => simp [datD] at hd <;> simp [lineB] at hq <;> simp [fs_law_is_line, seqS, setS, retS, retN, exprS, nilS, ifS, parS, asgS, bindT, bindTs, bindF, callC, varF, retF, consF, nilF, iteV, truF, truD, notF, andF, orF, andV, orV, notV, chF, chT, bodyEnds, startE, optF, idxF, slcF, intF, noF, newL, tyD, isiT, isiB, lenB, absB, intB, gcdB, tupB, lstB, ltG, leG, gtG, geG, isG, isnG, o2I, isO, getS, addF, subF, mulF, eqG_ii, neG_ii, neG_bb, fdivG, modG, powG, raiseS, wipeE, N_law_is_line] <;> exact hq
end LawX

set_option Elab.async false
set_option linter.all false
set_option maxRecDepth 100000
set_option maxHeartbeats 0
set_option exponentiation.threshold 5000
namespace LawX
open PySem PySem.Spec PyProof.Rows L2 Dx
def oneL : List D := [.str "abs", .str "atan", .str "cos", .str "exp", .str "log", .str "minus", .str "sin", .str "sqrt"]
def twoL : List D := [.str "by", .str "least", .str "less", .str "most", .str "plus", .str "times"]
def smoL : List D := [.str "cos", .str "exp", .str "less", .str "minus", .str "number", .str "pi", .str "plus", .str "power", .str "sin", .str "times", .str "unknown"]
def inL (l : List D) (w : Str) : Bool := l.any fun z => eqD z (.str w)
def lenD : D → Nat
  | .tup xs => xs.length
  | _ => 0
def leafB (w : Str) (as : List D) (f : Bool) : Bool :=
  if w = "number" then (match as with | [q] => isFrac q | _ => false)
  else if w = "pi" then as.isEmpty
  else if w = "unknown" then as.isEmpty && f
  else if w = "root" then (match as with | [l, k] => lineB l && (decide (1 < lenD l) && wholeB k 0 7) | _ => false)
  else false
def endB : D → Bool
  | .tup [.int a, .int b] => isFrac (.tup [.int a, .int b]) && decide ((a.natAbs : Int) ≤ 8 * b)
  | _ => false
def cLeaf : Ct := fun ds S Q _ => ∃ w as f l, ds = [.tup (.str w :: as), .bl f] ∧ okD l (.tup (.str w :: as)) = true ∧ l ≤ 1000 ∧ Q (.bl (leafB w as f)) S
def cEnd : Ct := fun ds S Q _ => ∃ v l, ds = [v] ∧ okD l v = true ∧ Q (.bl (endB v)) S
theorem line_form {v : D} (h : lineB v = true) : ∃ xs, v = .tup xs := by
  cases v with
  | tup xs => exact ⟨xs, rfl⟩
  | _ => cases h
theorem str_dat {l : Nat} {w : Str} {as : List D} (h : okD l (.tup (.str w :: as)) = true) : datD (.str w) = true := okD_dat ((okD_tup.mp h).2 _ (by simp))
theorem leaf_ok (ds : List D) (S : Store) (Q : D → Store → Prop) (E : QX) (h : cLeaf ds S Q E) : fsis_leaf cFrac cLine cWhole (bodyEnds Q E) (startE Nis_leaf ds) S := by
  obtain ⟨w, as, f, l, rfl, hv, hl, hq⟩ := h
  have hs := sizeLine_eq
  have z1 : ∀ k : Nat, k ≤ 100 → k ≤ sizeLine := fun k h => by omega
  have hx := okD_tup.mp hv
  have hw := str_dat hv
  have d1 : datD (.str "number") = true := by decide +kernel
  have d2 : datD (.str "pi") = true := by decide +kernel
  have d3 : datD (.str "root") = true := by decide +kernel
  have d4 : datDs [.str "pi", .str "unknown"] = true := by decide +kernel
  have a0 : L2.atI (D.str w :: as) 0 = some (.str w) := by simp [L2.atI, L2.ixN]
  simp [fsis_leaf, seqS, setS, retS, retN, exprS, nilS, ifS, parS, asgS, bindT, bindTs, bindF, callC, varF, retF, consF, nilF, iteV, truF, truD, notF, andF, orF, andV, orV, notV, chF, chT, bodyEnds, startE, optF, idxF, slcF, intF, noF, newL, tyD, isiT, isiB, lenB, absB, intB, gcdB, tupB, lstB, ltG, leG, gtG, geG, isG, isnG, o2I, isO, getS, addF, subF, mulF, eqG_ii, neG_ii, neG_bb, fdivG, modG, powG, raiseS, wipeE, Nis_leaf, a0, z1]
  rw [eqG_ss hw d1]
  by_cases h1 : w = "number"
  · subst h1
    simp [seqS, setS, retS, retN, exprS, nilS, ifS, parS, asgS, bindT, bindTs, bindF, callC, varF, retF, consF, nilF, iteV, truF, truD, notF, andF, orF, andV, orV, notV, chF, chT, bodyEnds, startE, optF, idxF, slcF, intF, noF, newL, tyD, isiT, isiB, lenB, absB, intB, gcdB, tupB, lstB, ltG, leG, gtG, geG, isG, isnG, o2I, isO, getS, addF, subF, mulF, eqG_ii, neG_ii, neG_bb, fdivG, modG, powG, raiseS, wipeE]
    match as, hx, hq with
    | [], _, hq => simp [leafB] at hq; simp [seqS, setS, retS, retN, exprS, nilS, ifS, parS, asgS, bindT, bindTs, bindF, callC, varF, retF, consF, nilF, iteV, truF, truD, notF, andF, orF, andV, orV, notV, chF, chT, bodyEnds, startE, optF, idxF, slcF, intF, noF, newL, tyD, isiT, isiB, lenB, absB, intB, gcdB, tupB, lstB, ltG, leG, gtG, geG, isG, isnG, o2I, isO, getS, addF, subF, mulF, eqG_ii, neG_ii, neG_bb, fdivG, modG, powG, raiseS, wipeE]; exact hq
    | [q], hx, hq =>
      simp [leafB] at hq
      simp [seqS, setS, retS, retN, exprS, nilS, ifS, parS, asgS, bindT, bindTs, bindF, callC, varF, retF, consF, nilF, iteV, truF, truD, notF, andF, orF, andV, orV, notV, chF, chT, bodyEnds, startE, optF, idxF, slcF, intF, noF, newL, tyD, isiT, isiB, lenB, absB, intB, gcdB, tupB, lstB, ltG, leG, gtG, geG, isG, isnG, o2I, isO, getS, addF, subF, mulF, eqG_ii, neG_ii, neG_bb, fdivG, modG, powG, raiseS, wipeE, L2.atI, L2.ixN]
      exact ⟨q, l, rfl, hx.2 q (by simp), hq⟩
    | a :: b :: r, _, hq =>
      simp [leafB] at hq
      have e : ¬ ((r.length : Int) + 1 + 1 + 1 = 2) := by omega
      simp [e, seqS, setS, retS, retN, exprS, nilS, ifS, parS, asgS, bindT, bindTs, bindF, callC, varF, retF, consF, nilF, iteV, truF, truD, notF, andF, orF, andV, orV, notV, chF, chT, bodyEnds, startE, optF, idxF, slcF, intF, noF, newL, tyD, isiT, isiB, lenB, absB, intB, gcdB, tupB, lstB, ltG, leG, gtG, geG, isG, isnG, o2I, isO, getS, addF, subF, mulF, eqG_ii, neG_ii, neG_bb, fdivG, modG, powG, raiseS, wipeE]
      exact hq
  · have e1 : (w == ("number" : Str)) = false := by simpa using h1
    simp [e1, seqS, setS, retS, retN, exprS, nilS, ifS, parS, asgS, bindT, bindTs, bindF, callC, varF, retF, consF, nilF, iteV, truF, truD, notF, andF, orF, andV, orV, notV, chF, chT, bodyEnds, startE, optF, idxF, slcF, intF, noF, newL, tyD, isiT, isiB, lenB, absB, intB, gcdB, tupB, lstB, ltG, leG, gtG, geG, isG, isnG, o2I, isO, getS, addF, subF, mulF, eqG_ii, neG_ii, neG_bb, fdivG, modG, powG, raiseS, wipeE, a0, z1]
    rw [(anyB_in hw (by simp [depD]) d4 (by simp [depDs, depD])).1]
    by_cases h2 : w = "pi"
    · subst h2
      simp [eqD, seqS, setS, retS, retN, exprS, nilS, ifS, parS, asgS, bindT, bindTs, bindF, callC, varF, retF, consF, nilF, iteV, truF, truD, notF, andF, orF, andV, orV, notV, chF, chT, bodyEnds, startE, optF, idxF, slcF, intF, noF, newL, tyD, isiT, isiB, lenB, absB, intB, gcdB, tupB, lstB, ltG, leG, gtG, geG, isG, isnG, o2I, isO, getS, addF, subF, mulF, eqG_ii, neG_ii, neG_bb, fdivG, modG, powG, raiseS, wipeE, a0]
      cases as with
      | nil =>
        simp [leafB] at hq
        simp [seqS, setS, retS, retN, exprS, nilS, ifS, parS, asgS, bindT, bindTs, bindF, callC, varF, retF, consF, nilF, iteV, truF, truD, notF, andF, orF, andV, orV, notV, chF, chT, bodyEnds, startE, optF, idxF, slcF, intF, noF, newL, tyD, isiT, isiB, lenB, absB, intB, gcdB, tupB, lstB, ltG, leG, gtG, geG, isG, isnG, o2I, isO, getS, addF, subF, mulF, eqG_ii, neG_ii, neG_bb, fdivG, modG, powG, raiseS, wipeE, a0]
        rw [eqG_ss d2 d2]
        simp [seqS, setS, retS, retN, exprS, nilS, ifS, parS, asgS, bindT, bindTs, bindF, callC, varF, retF, consF, nilF, iteV, truF, truD, notF, andF, orF, andV, orV, notV, chF, chT, bodyEnds, startE, optF, idxF, slcF, intF, noF, newL, tyD, isiT, isiB, lenB, absB, intB, gcdB, tupB, lstB, ltG, leG, gtG, geG, isG, isnG, o2I, isO, getS, addF, subF, mulF, eqG_ii, neG_ii, neG_bb, fdivG, modG, powG, raiseS, wipeE]
        exact hq
      | cons a r =>
        simp [leafB] at hq
        have e : ¬ ((r.length : Int) + 1 + 1 = 1) := by omega
        simp [e, seqS, setS, retS, retN, exprS, nilS, ifS, parS, asgS, bindT, bindTs, bindF, callC, varF, retF, consF, nilF, iteV, truF, truD, notF, andF, orF, andV, orV, notV, chF, chT, bodyEnds, startE, optF, idxF, slcF, intF, noF, newL, tyD, isiT, isiB, lenB, absB, intB, gcdB, tupB, lstB, ltG, leG, gtG, geG, isG, isnG, o2I, isO, getS, addF, subF, mulF, eqG_ii, neG_ii, neG_bb, fdivG, modG, powG, raiseS, wipeE]
        exact hq
    · have e2 : (("pi" : Str) == w) = false := by simpa using fun h => h2 h.symm
      have e2' : (w == ("pi" : Str)) = false := by simpa using h2
      by_cases h3 : w = "unknown"
      · subst h3
        simp [eqD, seqS, setS, retS, retN, exprS, nilS, ifS, parS, asgS, bindT, bindTs, bindF, callC, varF, retF, consF, nilF, iteV, truF, truD, notF, andF, orF, andV, orV, notV, chF, chT, bodyEnds, startE, optF, idxF, slcF, intF, noF, newL, tyD, isiT, isiB, lenB, absB, intB, gcdB, tupB, lstB, ltG, leG, gtG, geG, isG, isnG, o2I, isO, getS, addF, subF, mulF, eqG_ii, neG_ii, neG_bb, fdivG, modG, powG, raiseS, wipeE, a0]
        cases as with
        | nil =>
          simp [leafB] at hq
          simp [seqS, setS, retS, retN, exprS, nilS, ifS, parS, asgS, bindT, bindTs, bindF, callC, varF, retF, consF, nilF, iteV, truF, truD, notF, andF, orF, andV, orV, notV, chF, chT, bodyEnds, startE, optF, idxF, slcF, intF, noF, newL, tyD, isiT, isiB, lenB, absB, intB, gcdB, tupB, lstB, ltG, leG, gtG, geG, isG, isnG, o2I, isO, getS, addF, subF, mulF, eqG_ii, neG_ii, neG_bb, fdivG, modG, powG, raiseS, wipeE, a0]
          rw [eqG_ss hw d2, e2']
          simp [seqS, setS, retS, retN, exprS, nilS, ifS, parS, asgS, bindT, bindTs, bindF, callC, varF, retF, consF, nilF, iteV, truF, truD, notF, andF, orF, andV, orV, notV, chF, chT, bodyEnds, startE, optF, idxF, slcF, intF, noF, newL, tyD, isiT, isiB, lenB, absB, intB, gcdB, tupB, lstB, ltG, leG, gtG, geG, isG, isnG, o2I, isO, getS, addF, subF, mulF, eqG_ii, neG_ii, neG_bb, fdivG, modG, powG, raiseS, wipeE]
          exact hq
        | cons a r =>
          simp [leafB] at hq
          have e : ¬ ((r.length : Int) + 1 + 1 = 1) := by omega
          simp [e, seqS, setS, retS, retN, exprS, nilS, ifS, parS, asgS, bindT, bindTs, bindF, callC, varF, retF, consF, nilF, iteV, truF, truD, notF, andF, orF, andV, orV, notV, chF, chT, bodyEnds, startE, optF, idxF, slcF, intF, noF, newL, tyD, isiT, isiB, lenB, absB, intB, gcdB, tupB, lstB, ltG, leG, gtG, geG, isG, isnG, o2I, isO, getS, addF, subF, mulF, eqG_ii, neG_ii, neG_bb, fdivG, modG, powG, raiseS, wipeE]
          exact hq
      · have e3 : (("unknown" : Str) == w) = false := by simpa using fun h => h3 h.symm
        simp [eqD, e2, e3, seqS, setS, retS, retN, exprS, nilS, ifS, parS, asgS, bindT, bindTs, bindF, callC, varF, retF, consF, nilF, iteV, truF, truD, notF, andF, orF, andV, orV, notV, chF, chT, bodyEnds, startE, optF, idxF, slcF, intF, noF, newL, tyD, isiT, isiB, lenB, absB, intB, gcdB, tupB, lstB, ltG, leG, gtG, geG, isG, isnG, o2I, isO, getS, addF, subF, mulF, eqG_ii, neG_ii, neG_bb, fdivG, modG, powG, raiseS, wipeE, a0]
        rw [neG_ss hw d3]
        by_cases h4 : w = "root"
        · subst h4
          simp [seqS, setS, retS, retN, exprS, nilS, ifS, parS, asgS, bindT, bindTs, bindF, callC, varF, retF, consF, nilF, iteV, truF, truD, notF, andF, orF, andV, orV, notV, chF, chT, bodyEnds, startE, optF, idxF, slcF, intF, noF, newL, tyD, isiT, isiB, lenB, absB, intB, gcdB, tupB, lstB, ltG, leG, gtG, geG, isG, isnG, o2I, isO, getS, addF, subF, mulF, eqG_ii, neG_ii, neG_bb, fdivG, modG, powG, raiseS, wipeE]
          match as, hx, hq with
          | [], _, hq => simp [leafB] at hq; simp [seqS, setS, retS, retN, exprS, nilS, ifS, parS, asgS, bindT, bindTs, bindF, callC, varF, retF, consF, nilF, iteV, truF, truD, notF, andF, orF, andV, orV, notV, chF, chT, bodyEnds, startE, optF, idxF, slcF, intF, noF, newL, tyD, isiT, isiB, lenB, absB, intB, gcdB, tupB, lstB, ltG, leG, gtG, geG, isG, isnG, o2I, isO, getS, addF, subF, mulF, eqG_ii, neG_ii, neG_bb, fdivG, modG, powG, raiseS, wipeE]; exact hq
          | [q], _, hq => simp [leafB] at hq; simp [seqS, setS, retS, retN, exprS, nilS, ifS, parS, asgS, bindT, bindTs, bindF, callC, varF, retF, consF, nilF, iteV, truF, truD, notF, andF, orF, andV, orV, notV, chF, chT, bodyEnds, startE, optF, idxF, slcF, intF, noF, newL, tyD, isiT, isiB, lenB, absB, intB, gcdB, tupB, lstB, ltG, leG, gtG, geG, isG, isnG, o2I, isO, getS, addF, subF, mulF, eqG_ii, neG_ii, neG_bb, fdivG, modG, powG, raiseS, wipeE]; exact hq
          | [a, k], hx, hq =>
            simp [leafB] at hq
            simp [seqS, setS, retS, retN, exprS, nilS, ifS, parS, asgS, bindT, bindTs, bindF, callC, varF, retF, consF, nilF, iteV, truF, truD, notF, andF, orF, andV, orV, notV, chF, chT, bodyEnds, startE, optF, idxF, slcF, intF, noF, newL, tyD, isiT, isiB, lenB, absB, intB, gcdB, tupB, lstB, ltG, leG, gtG, geG, isG, isnG, o2I, isO, getS, addF, subF, mulF, eqG_ii, neG_ii, neG_bb, fdivG, modG, powG, raiseS, wipeE, L2.atI, L2.ixN]
            refine ⟨a, l, rfl, hx.2 a (by simp), by omega, ?_⟩
            by_cases hla : lineB a = true
            · obtain ⟨xs, rfl⟩ := line_form hla
              simp [hla, lenD] at hq
              by_cases hlen : 1 < xs.length
              · have e : (1 : Int) < xs.length := by omega
                simp [hlen] at hq
                simp [hla, seqS, setS, retS, retN, exprS, nilS, ifS, parS, asgS, bindT, bindTs, bindF, callC, varF, retF, consF, nilF, iteV, truF, truD, notF, andF, orF, andV, orV, notV, chF, chT, bodyEnds, startE, optF, idxF, slcF, intF, noF, newL, tyD, isiT, isiB, lenB, absB, intB, gcdB, tupB, lstB, ltG, leG, gtG, geG, isG, isnG, o2I, isO, getS, addF, subF, mulF, eqG_ii, neG_ii, neG_bb, fdivG, modG, powG, raiseS, wipeE, L2.atI, L2.ixN, e]
                exact ⟨k, _, _, rfl, okD_dat (hx.2 k (by simp)), hq⟩
              · have e : ¬ (1 : Int) < xs.length := by omega
                simp [hlen] at hq
                simp [hla, seqS, setS, retS, retN, exprS, nilS, ifS, parS, asgS, bindT, bindTs, bindF, callC, varF, retF, consF, nilF, iteV, truF, truD, notF, andF, orF, andV, orV, notV, chF, chT, bodyEnds, startE, optF, idxF, slcF, intF, noF, newL, tyD, isiT, isiB, lenB, absB, intB, gcdB, tupB, lstB, ltG, leG, gtG, geG, isG, isnG, o2I, isO, getS, addF, subF, mulF, eqG_ii, neG_ii, neG_bb, fdivG, modG, powG, raiseS, wipeE, L2.atI, L2.ixN, e]
                exact hq
            · simp at hla
              simp [hla] at hq
              simp [hla, seqS, setS, retS, retN, exprS, nilS, ifS, parS, asgS, bindT, bindTs, bindF, callC, varF, retF, consF, nilF, iteV, truF, truD, notF, andF, orF, andV, orV, notV, chF, chT, bodyEnds, startE, optF, idxF, slcF, intF, noF, newL, tyD, isiT, isiB, lenB, absB, intB, gcdB, tupB, lstB, ltG, leG, gtG, geG, isG, isnG, o2I, isO, getS, addF, subF, mulF, eqG_ii, neG_ii, neG_bb, fdivG, modG, powG, raiseS, wipeE]
              exact hq
          | a :: b :: c :: r, _, hq =>
            simp [leafB] at hq
            have e : ¬ ((r.length : Int) + 1 + 1 + 1 + 1 = 3) := by omega
            simp [e, seqS, setS, retS, retN, exprS, nilS, ifS, parS, asgS, bindT, bindTs, bindF, callC, varF, retF, consF, nilF, iteV, truF, truD, notF, andF, orF, andV, orV, notV, chF, chT, bodyEnds, startE, optF, idxF, slcF, intF, noF, newL, tyD, isiT, isiB, lenB, absB, intB, gcdB, tupB, lstB, ltG, leG, gtG, geG, isG, isnG, o2I, isO, getS, addF, subF, mulF, eqG_ii, neG_ii, neG_bb, fdivG, modG, powG, raiseS, wipeE]
            exact hq
        · have e4 : (w == ("root" : Str)) = false := by simpa using h4
          simp [leafB, h1, h2, h3, h4] at hq
          simp [e4, seqS, setS, retS, retN, exprS, nilS, ifS, parS, asgS, bindT, bindTs, bindF, callC, varF, retF, consF, nilF, iteV, truF, truD, notF, andF, orF, andV, orV, notV, chF, chT, bodyEnds, startE, optF, idxF, slcF, intF, noF, newL, tyD, isiT, isiB, lenB, absB, intB, gcdB, tupB, lstB, ltG, leG, gtG, geG, isG, isnG, o2I, isO, getS, addF, subF, mulF, eqG_ii, neG_ii, neG_bb, fdivG, modG, powG, raiseS, wipeE]
          exact hq
theorem frac_form {v : D} (h : isFrac v = true) : ∃ a b, v = .tup [.int a, .int b] ∧ 0 < b ∧ Nat.gcd a.natAbs b.natAbs = 1 ∧ a.natAbs ≤ 1000000000000 ∧ b ≤ 1000000000000 := by
  unfold isFrac at h
  split at h
  · rename_i a b
    simp at h
    exact ⟨a, b, rfl, h.1.1, h.1.2, h.2.1, h.2.2⟩
  · cases h
theorem end_ok (ds : List D) (S : Store) (Q : D → Store → Prop) (E : QX) (h : cEnd ds S Q E) : fsis_end cFrac cLess cMade (bodyEnds Q E) (startE Nis_end ds) S := by
  obtain ⟨v, l, rfl, hv, hq⟩ := h
  simp [fsis_end, seqS, setS, retS, retN, exprS, nilS, ifS, parS, asgS, bindT, bindTs, bindF, callC, varF, retF, consF, nilF, iteV, truF, truD, notF, andF, orF, andV, orV, notV, chF, chT, bodyEnds, startE, optF, idxF, slcF, intF, noF, newL, tyD, isiT, isiB, lenB, absB, intB, gcdB, tupB, lstB, ltG, leG, gtG, geG, isG, isnG, o2I, isO, getS, addF, subF, mulF, eqG_ii, neG_ii, neG_bb, fdivG, modG, powG, raiseS, wipeE, Nis_end]
  refine ⟨v, l, rfl, hv, ?_⟩
  by_cases hf : isFrac v = true
  · obtain ⟨a, b, rfl, h0, hg, ha, hb⟩ := frac_form hf
    simp [hf, seqS, setS, retS, retN, exprS, nilS, ifS, parS, asgS, bindT, bindTs, bindF, callC, varF, retF, consF, nilF, iteV, truF, truD, notF, andF, orF, andV, orV, notV, chF, chT, bodyEnds, startE, optF, idxF, slcF, intF, noF, newL, tyD, isiT, isiB, lenB, absB, intB, gcdB, tupB, lstB, ltG, leG, gtG, geG, isG, isnG, o2I, isO, getS, addF, subF, mulF, eqG_ii, neG_ii, neG_bb, fdivG, modG, powG, raiseS, wipeE, L2.atI, L2.ixN]
    have hp : (1000000000000 : Int) < 2 ^ 4000 := by decide
    refine ⟨_, b, rfl, h0, by omega, ?_⟩
    have e : madeD (if a < 0 then -a else a) b = .tup [.int (if a < 0 then -a else a), .int b] := by
      have hn : (if a < 0 then -a else a).natAbs = a.natAbs := by split <;> omega
      unfold madeD
      rw [hn, hg]
      simp
    rw [e]
    refine ⟨8, 1, _, b, rfl, by unfold cMul; simp, by unfold cMul; simp, ?_⟩
    simp [seqS, setS, retS, retN, exprS, nilS, ifS, parS, asgS, bindT, bindTs, bindF, callC, varF, retF, consF, nilF, iteV, truF, truD, notF, andF, orF, andV, orV, notV, chF, chT, bodyEnds, startE, optF, idxF, slcF, intF, noF, newL, tyD, isiT, isiB, lenB, absB, intB, gcdB, tupB, lstB, ltG, leG, gtG, geG, isG, isnG, o2I, isO, getS, addF, subF, mulF, eqG_ii, neG_ii, neG_bb, fdivG, modG, powG, raiseS, wipeE]
    simp only [endB, hf, Bool.true_and] at hq
    have e2 : (!decide (8 * b < if a < 0 then -a else a)) = decide ((a.natAbs : Int) ≤ 8 * b) := by
      rw [Bool.eq_iff_iff]
      simp
      split <;> omega
    first
      | (rw [e2]; exact hq)
      | (rw [← e2] at hq; simpa using hq)
  · have e : endB v = false := by
      cases q : endB v with
      | false => rfl
      | true =>
        unfold endB at q
        split at q
        · simp at q; exact absurd q.1 hf
        · cases q
    rw [e] at hq
    simp at hf
    simp [hf, seqS, setS, retS, retN, exprS, nilS, ifS, parS, asgS, bindT, bindTs, bindF, callC, varF, retF, consF, nilF, iteV, truF, truD, notF, andF, orF, andV, orV, notV, chF, chT, bodyEnds, startE, optF, idxF, slcF, intF, noF, newL, tyD, isiT, isiB, lenB, absB, intB, gcdB, tupB, lstB, ltG, leG, gtG, geG, isG, isnG, o2I, isO, getS, addF, subF, mulF, eqG_ii, neG_ii, neG_bb, fdivG, modG, powG, raiseS, wipeE]
    exact hq
end LawX

set_option Elab.async false
set_option linter.all false
set_option maxRecDepth 100000
set_option maxHeartbeats 0
set_option exponentiation.threshold 5000
namespace LawX
open PySem PySem.Spec PyProof.Rows L2 Dx
/-! ### what is left of the nodes -/
def nodeM (rec : Bool → D → Int → Int) (w : Str) (as : List D) (f : Bool) (m : Int) : Int :=
  if inL oneL w = true ∧ as.length = 1 then rec f (as.getD 0 .non) (m - 1)
  else if w = "power" ∧ as.length = 2 then (if wholeB (as.getD 1 .non) 0 12 = true then rec f (as.getD 0 .non) (m - 1) else -1)
  else if inL twoL w = true ∧ as.length = 2 then (if 0 ≤ rec f (as.getD 0 .non) (m - 1) then rec f (as.getD 1 .non) (rec f (as.getD 0 .non) (m - 1)) else -1)
  else if w = "area" ∧ as.length = 3 then (if endB (as.getD 1 .non) = true ∧ endB (as.getD 2 .non) = true then rec true (as.getD 0 .non) (m - 1) else -1)
  else if leafB w as f = true then m - 1 else -1
def leftM : Nat → Bool → D → Int → Int
  | 0, _, _, _ => -1
  | h + 1, f, v, m => if m = 0 then -1 else match v with
    | .tup (.str w :: as) => if 3 < as.length then -1 else if (f && !inL smoL w) = true then -1 else nodeM (leftM h) w as f m
    | _ => -1
def cLeft (h : Nat) : Ct := fun ds S Q _ => ∃ v m f l, ds = [v, .int (h : Nat), .int m, .bl f] ∧ okD l v = true ∧ l ≤ 1000 ∧ 0 ≤ m ∧ Q (.int (leftM h f v m)) S
abbrev ltE (v : D) (h : Nat) (m : Int) (f : Bool) (r : Option D) : Dx.Env := [some v, some (.int ((h : Int) + 1)), some (.int m), some (.bl f), r]
theorem i0 {x : D} {as : List D} : L2.atI (x :: as) 0 = some x := by simp [L2.atI, L2.ixN]
theorem i1 {x a : D} {as : List D} : L2.atI (x :: a :: as) 1 = some a := by
  have : ((1 : Int) < (as.length : Int) + 1 + 1) := by omega
  simp [L2.atI, L2.ixN, this]
theorem i2 {x a b : D} {as : List D} : L2.atI (x :: a :: b :: as) 2 = some b := by
  have : ((2 : Int) < (as.length : Int) + 1 + 1 + 1) := by omega
  simp [L2.atI, L2.ixN, this]
theorem i3 {x a b c : D} {as : List D} : L2.atI (x :: a :: b :: c :: as) 3 = some c := by
  have : ((3 : Int) < (as.length : Int) + 1 + 1 + 1 + 1) := by omega
  simp [L2.atI, L2.ixN, this]
theorem in_one {w : Str} (hw : datD (.str w) = true) {τ : Dx.Env} {S : Store} {Q : D → Store → Prop} {E : QX} : inG (.str w) (.tup oneL) τ S Q E = Q (.bl (inL oneL w)) S := (anyB_in hw (by simp [depD]) (by decide +kernel) (by decide +kernel)).1
theorem in_two {w : Str} (hw : datD (.str w) = true) {τ : Dx.Env} {S : Store} {Q : D → Store → Prop} {E : QX} : inG (.str w) (.tup twoL) τ S Q E = Q (.bl (inL twoL w)) S := (anyB_in hw (by simp [depD]) (by decide +kernel) (by decide +kernel)).1
theorem in_smo {w : Str} (hw : datD (.str w) = true) {τ : Dx.Env} {S : Store} {Q : D → Store → Prop} {E : QX} : ninG (.str w) (.tup smoL) τ S Q E = Q (.bl (!inL smoL w)) S := (anyB_in hw (by simp [depD]) (by decide +kernel) (by decide +kernel)).2.2
theorem eq_pow {w : Str} (hw : datD (.str w) = true) {τ : Dx.Env} {S : Store} {Q : D → Store → Prop} {E : QX} : eqG (.str w) (.str "power") τ S Q E = Q (.bl (w == "power")) S := eqG_ss hw (by decide +kernel)
theorem eq_area {w : Str} (hw : datD (.str w) = true) {τ : Dx.Env} {S : Store} {Q : D → Store → Prop} {E : QX} : eqG (.str w) (.str "area") τ S Q E = Q (.bl (w == "area")) S := eqG_ss hw (by decide +kernel)
theorem len1 {l : List D} (h : l.length = 1) : ∃ a, l = [a] := by
  match l, h with
  | [a], _ => exact ⟨a, rfl⟩
theorem len3 {l : List D} (h : l.length = 3) : ∃ a b c, l = [a, b, c] := by
  match l, h with
  | [a, b, c], _ => exact ⟨a, b, c, rfl⟩
section
variable {E : DEnds} {S : Store} {w : Str} {as : List D} {h l : Nat} {m : Int} {f : Bool} {r : Option D}
theorem lp1 (hv : okD l (.tup (.str w :: as)) = true) (h1 : (f && !inL smoL w) = true → E.rt (.int (-1)) S) (h0 : (f && !inL smoL w) = false → E.nx (ltE (.tup (.str w :: as)) h m f r) S) : fsleft_of_1 E (ltE (.tup (.str w :: as)) h m f r) S := by
  have hw := str_dat hv
  cases f with
  | false => simp at h0; simp [fsleft_of_1, seqS, setS, retS, retN, exprS, nilS, ifS, parS, asgS, bindT, bindTs, bindF, callC, varF, retF, consF, nilF, iteV, truF, truD, notF, andF, orF, andV, orV, notV, chF, chT, bodyEnds, startE, optF, idxF, slcF, intF, noF, newL, tyD, isiT, isiB, lenB, absB, intB, gcdB, tupB, lstB, ltG, leG, gtG, geG, isG, isnG, o2I, isO, getS, addF, subF, mulF, eqG_ii, neG_ii, neG_bb, fdivG, modG, powG, raiseS, wipeE, i0]; exact h0
  | true =>
    simp [fsleft_of_1, seqS, setS, retS, retN, exprS, nilS, ifS, parS, asgS, bindT, bindTs, bindF, callC, varF, retF, consF, nilF, iteV, truF, truD, notF, andF, orF, andV, orV, notV, chF, chT, bodyEnds, startE, optF, idxF, slcF, intF, noF, newL, tyD, isiT, isiB, lenB, absB, intB, gcdB, tupB, lstB, ltG, leG, gtG, geG, isG, isnG, o2I, isO, getS, addF, subF, mulF, eqG_ii, neG_ii, neG_bb, fdivG, modG, powG, raiseS, wipeE, i0]
    refine cast (in_smo hw).symm ?_
    cases hs : inL smoL w with
    | true => simp [hs] at h0; simp [seqS, setS, retS, retN, exprS, nilS, ifS, parS, asgS, bindT, bindTs, bindF, callC, varF, retF, consF, nilF, iteV, truF, truD, notF, andF, orF, andV, orV, notV, chF, chT, bodyEnds, startE, optF, idxF, slcF, intF, noF, newL, tyD, isiT, isiB, lenB, absB, intB, gcdB, tupB, lstB, ltG, leG, gtG, geG, isG, isnG, o2I, isO, getS, addF, subF, mulF, eqG_ii, neG_ii, neG_bb, fdivG, modG, powG, raiseS, wipeE]; exact h0
    | false => simp [hs] at h1; simp [seqS, setS, retS, retN, exprS, nilS, ifS, parS, asgS, bindT, bindTs, bindF, callC, varF, retF, consF, nilF, iteV, truF, truD, notF, andF, orF, andV, orV, notV, chF, chT, bodyEnds, startE, optF, idxF, slcF, intF, noF, newL, tyD, isiT, isiB, lenB, absB, intB, gcdB, tupB, lstB, ltG, leG, gtG, geG, isG, isnG, o2I, isO, getS, addF, subF, mulF, eqG_ii, neG_ii, neG_bb, fdivG, modG, powG, raiseS, wipeE]; exact h1
theorem lp2 (hv : okD l (.tup (.str w :: as)) = true) (h1 : inL oneL w = true ∧ as.length = 1 → cLeft h [as.getD 0 .non, .int h, .int (m - 1), .bl f] S E.rt (fun x S' => E.ex x (ltE (.tup (.str w :: as)) h m f r) S')) (h0 : ¬ (inL oneL w = true ∧ as.length = 1) → E.nx (ltE (.tup (.str w :: as)) h m f r) S) :
    fsleft_of_2 (cLeft h) E (ltE (.tup (.str w :: as)) h m f r) S := by
  have hw := str_dat hv
  simp [fsleft_of_2, seqS, setS, retS, retN, exprS, nilS, ifS, parS, asgS, bindT, bindTs, bindF, callC, varF, retF, consF, nilF, iteV, truF, truD, notF, andF, orF, andV, orV, notV, chF, chT, bodyEnds, startE, optF, idxF, slcF, intF, noF, newL, tyD, isiT, isiB, lenB, absB, intB, gcdB, tupB, lstB, ltG, leG, gtG, geG, isG, isnG, o2I, isO, getS, addF, subF, mulF, eqG_ii, neG_ii, neG_bb, fdivG, modG, powG, raiseS, wipeE, i0]
  refine cast (in_one hw).symm ?_
  by_cases ho : inL oneL w = true
  · simp [ho, seqS, setS, retS, retN, exprS, nilS, ifS, parS, asgS, bindT, bindTs, bindF, callC, varF, retF, consF, nilF, iteV, truF, truD, notF, andF, orF, andV, orV, notV, chF, chT, bodyEnds, startE, optF, idxF, slcF, intF, noF, newL, tyD, isiT, isiB, lenB, absB, intB, gcdB, tupB, lstB, ltG, leG, gtG, geG, isG, isnG, o2I, isO, getS, addF, subF, mulF, eqG_ii, neG_ii, neG_bb, fdivG, modG, powG, raiseS, wipeE]
    by_cases hl : as.length = 1
    · obtain ⟨a, rfl⟩ := len1 hl
      simp [i1]
      exact h1 ⟨ho, rfl⟩
    · have e : ¬ ((as.length : Int) + 1 = 2) := by omega
      simp [e]
      exact h0 fun z => hl z.2
  · simp at ho
    simp [ho, seqS, setS, retS, retN, exprS, nilS, ifS, parS, asgS, bindT, bindTs, bindF, callC, varF, retF, consF, nilF, iteV, truF, truD, notF, andF, orF, andV, orV, notV, chF, chT, bodyEnds, startE, optF, idxF, slcF, intF, noF, newL, tyD, isiT, isiB, lenB, absB, intB, gcdB, tupB, lstB, ltG, leG, gtG, geG, isG, isnG, o2I, isO, getS, addF, subF, mulF, eqG_ii, neG_ii, neG_bb, fdivG, modG, powG, raiseS, wipeE]
    exact h0 fun z => by rw [ho] at z; cases z.1
theorem lp3 (hv : okD l (.tup (.str w :: as)) = true) (h1 : w = "power" ∧ as.length = 2 → if wholeB (as.getD 1 .non) 0 12 = true then cLeft h [as.getD 0 .non, .int h, .int (m - 1), .bl f] S E.rt (fun x S' => E.ex x (ltE (.tup (.str w :: as)) h m f r) S') else E.rt (.int (-1)) S)
    (h0 : ¬ (w = "power" ∧ as.length = 2) → E.nx (ltE (.tup (.str w :: as)) h m f r) S) : fsleft_of_3 cWhole (cLeft h) E (ltE (.tup (.str w :: as)) h m f r) S := by
  have hw := str_dat hv
  have hx := okD_tup.mp hv
  simp [fsleft_of_3, seqS, setS, retS, retN, exprS, nilS, ifS, parS, asgS, bindT, bindTs, bindF, callC, varF, retF, consF, nilF, iteV, truF, truD, notF, andF, orF, andV, orV, notV, chF, chT, bodyEnds, startE, optF, idxF, slcF, intF, noF, newL, tyD, isiT, isiB, lenB, absB, intB, gcdB, tupB, lstB, ltG, leG, gtG, geG, isG, isnG, o2I, isO, getS, addF, subF, mulF, eqG_ii, neG_ii, neG_bb, fdivG, modG, powG, raiseS, wipeE, i0]
  refine cast (eq_pow hw).symm ?_
  by_cases ho : w = "power"
  · subst ho
    simp [seqS, setS, retS, retN, exprS, nilS, ifS, parS, asgS, bindT, bindTs, bindF, callC, varF, retF, consF, nilF, iteV, truF, truD, notF, andF, orF, andV, orV, notV, chF, chT, bodyEnds, startE, optF, idxF, slcF, intF, noF, newL, tyD, isiT, isiB, lenB, absB, intB, gcdB, tupB, lstB, ltG, leG, gtG, geG, isG, isnG, o2I, isO, getS, addF, subF, mulF, eqG_ii, neG_ii, neG_bb, fdivG, modG, powG, raiseS, wipeE]
    by_cases hl : as.length = 2
    · obtain ⟨a, b, rfl⟩ := len2 hl
      simp [i1, i2]
      refine ⟨b, _, _, rfl, okD_dat (hx.2 b (by simp)), ?_⟩
      have h1 := h1 ⟨rfl, rfl⟩
      by_cases hb : wholeB b 0 12 = true
      · simp [hb] at h1
        simp [hb, seqS, setS, retS, retN, exprS, nilS, ifS, parS, asgS, bindT, bindTs, bindF, callC, varF, retF, consF, nilF, iteV, truF, truD, notF, andF, orF, andV, orV, notV, chF, chT, bodyEnds, startE, optF, idxF, slcF, intF, noF, newL, tyD, isiT, isiB, lenB, absB, intB, gcdB, tupB, lstB, ltG, leG, gtG, geG, isG, isnG, o2I, isO, getS, addF, subF, mulF, eqG_ii, neG_ii, neG_bb, fdivG, modG, powG, raiseS, wipeE, i1]
        exact h1
      · simp [hb] at h1
        simp [hb, seqS, setS, retS, retN, exprS, nilS, ifS, parS, asgS, bindT, bindTs, bindF, callC, varF, retF, consF, nilF, iteV, truF, truD, notF, andF, orF, andV, orV, notV, chF, chT, bodyEnds, startE, optF, idxF, slcF, intF, noF, newL, tyD, isiT, isiB, lenB, absB, intB, gcdB, tupB, lstB, ltG, leG, gtG, geG, isG, isnG, o2I, isO, getS, addF, subF, mulF, eqG_ii, neG_ii, neG_bb, fdivG, modG, powG, raiseS, wipeE]
        exact h1
    · have e : ¬ ((as.length : Int) + 1 = 3) := by omega
      simp [e]
      exact h0 fun z => hl z.2
  · have e : (w == ("power" : Str)) = false := by simpa using ho
    simp [e, seqS, setS, retS, retN, exprS, nilS, ifS, parS, asgS, bindT, bindTs, bindF, callC, varF, retF, consF, nilF, iteV, truF, truD, notF, andF, orF, andV, orV, notV, chF, chT, bodyEnds, startE, optF, idxF, slcF, intF, noF, newL, tyD, isiT, isiB, lenB, absB, intB, gcdB, tupB, lstB, ltG, leG, gtG, geG, isG, isnG, o2I, isO, getS, addF, subF, mulF, eqG_ii, neG_ii, neG_bb, fdivG, modG, powG, raiseS, wipeE]
    exact h0 fun z => ho z.1
theorem lp4 (hv : okD l (.tup (.str w :: as)) = true) (hl2 : l ≤ 1000) (hm : 0 ≤ m - 1) (h1 : inL twoL w = true ∧ as.length = 2 → E.rt (.int (if 0 ≤ leftM h f (as.getD 0 .non) (m - 1) then leftM h f (as.getD 1 .non) (leftM h f (as.getD 0 .non) (m - 1)) else -1)) S)
    (h0 : ¬ (inL twoL w = true ∧ as.length = 2) → E.nx (ltE (.tup (.str w :: as)) h m f r) S) : fsleft_of_4 (cLeft h) E (ltE (.tup (.str w :: as)) h m f r) S := by
  have hw := str_dat hv
  have hx := okD_tup.mp hv
  simp [fsleft_of_4, seqS, setS, retS, retN, exprS, nilS, ifS, parS, asgS, bindT, bindTs, bindF, callC, varF, retF, consF, nilF, iteV, truF, truD, notF, andF, orF, andV, orV, notV, chF, chT, bodyEnds, startE, optF, idxF, slcF, intF, noF, newL, tyD, isiT, isiB, lenB, absB, intB, gcdB, tupB, lstB, ltG, leG, gtG, geG, isG, isnG, o2I, isO, getS, addF, subF, mulF, eqG_ii, neG_ii, neG_bb, fdivG, modG, powG, raiseS, wipeE, i0]
  refine cast (in_two hw).symm ?_
  by_cases ho : inL twoL w = true
  · simp [ho, seqS, setS, retS, retN, exprS, nilS, ifS, parS, asgS, bindT, bindTs, bindF, callC, varF, retF, consF, nilF, iteV, truF, truD, notF, andF, orF, andV, orV, notV, chF, chT, bodyEnds, startE, optF, idxF, slcF, intF, noF, newL, tyD, isiT, isiB, lenB, absB, intB, gcdB, tupB, lstB, ltG, leG, gtG, geG, isG, isnG, o2I, isO, getS, addF, subF, mulF, eqG_ii, neG_ii, neG_bb, fdivG, modG, powG, raiseS, wipeE]
    by_cases hl : as.length = 2
    · obtain ⟨a, b, rfl⟩ := len2 hl
      simp [i1]
      refine ⟨a, m - 1, f, l, rfl, hx.2 a (by simp), hl2, hm, ?_⟩
      have h1 := h1 ⟨ho, rfl⟩
      simp at h1
      by_cases hr : 0 ≤ leftM h f a (m - 1)
      · simp [hr] at h1
        simp [hr, seqS, setS, retS, retN, exprS, nilS, ifS, parS, asgS, bindT, bindTs, bindF, callC, varF, retF, consF, nilF, iteV, truF, truD, notF, andF, orF, andV, orV, notV, chF, chT, bodyEnds, startE, optF, idxF, slcF, intF, noF, newL, tyD, isiT, isiB, lenB, absB, intB, gcdB, tupB, lstB, ltG, leG, gtG, geG, isG, isnG, o2I, isO, getS, addF, subF, mulF, eqG_ii, neG_ii, neG_bb, fdivG, modG, powG, raiseS, wipeE, i2]
        exact ⟨b, _, f, l, rfl, hx.2 b (by simp), hl2, hr, h1⟩
      · simp [hr] at h1
        simp [hr, seqS, setS, retS, retN, exprS, nilS, ifS, parS, asgS, bindT, bindTs, bindF, callC, varF, retF, consF, nilF, iteV, truF, truD, notF, andF, orF, andV, orV, notV, chF, chT, bodyEnds, startE, optF, idxF, slcF, intF, noF, newL, tyD, isiT, isiB, lenB, absB, intB, gcdB, tupB, lstB, ltG, leG, gtG, geG, isG, isnG, o2I, isO, getS, addF, subF, mulF, eqG_ii, neG_ii, neG_bb, fdivG, modG, powG, raiseS, wipeE]
        exact h1
    · have e : ¬ ((as.length : Int) + 1 = 3) := by omega
      simp [e]
      exact h0 fun z => hl z.2
  · simp at ho
    simp [ho, seqS, setS, retS, retN, exprS, nilS, ifS, parS, asgS, bindT, bindTs, bindF, callC, varF, retF, consF, nilF, iteV, truF, truD, notF, andF, orF, andV, orV, notV, chF, chT, bodyEnds, startE, optF, idxF, slcF, intF, noF, newL, tyD, isiT, isiB, lenB, absB, intB, gcdB, tupB, lstB, ltG, leG, gtG, geG, isG, isnG, o2I, isO, getS, addF, subF, mulF, eqG_ii, neG_ii, neG_bb, fdivG, modG, powG, raiseS, wipeE]
    exact h0 fun z => by rw [ho] at z; cases z.1
theorem lp5 (hv : okD l (.tup (.str w :: as)) = true) (h1 : w = "area" ∧ as.length = 3 → if endB (as.getD 1 .non) = true ∧ endB (as.getD 2 .non) = true then cLeft h [as.getD 0 .non, .int h, .int (m - 1), .bl true] S E.rt (fun x S' => E.ex x (ltE (.tup (.str w :: as)) h m f r) S') else E.rt (.int (-1)) S)
    (h0 : ¬ (w = "area" ∧ as.length = 3) → E.nx (ltE (.tup (.str w :: as)) h m f r) S) : fsleft_of_5 cEnd (cLeft h) E (ltE (.tup (.str w :: as)) h m f r) S := by
  have hw := str_dat hv
  have hx := okD_tup.mp hv
  simp [fsleft_of_5, seqS, setS, retS, retN, exprS, nilS, ifS, parS, asgS, bindT, bindTs, bindF, callC, varF, retF, consF, nilF, iteV, truF, truD, notF, andF, orF, andV, orV, notV, chF, chT, bodyEnds, startE, optF, idxF, slcF, intF, noF, newL, tyD, isiT, isiB, lenB, absB, intB, gcdB, tupB, lstB, ltG, leG, gtG, geG, isG, isnG, o2I, isO, getS, addF, subF, mulF, eqG_ii, neG_ii, neG_bb, fdivG, modG, powG, raiseS, wipeE, i0]
  refine cast (eq_area hw).symm ?_
  by_cases ho : w = "area"
  · subst ho
    simp [seqS, setS, retS, retN, exprS, nilS, ifS, parS, asgS, bindT, bindTs, bindF, callC, varF, retF, consF, nilF, iteV, truF, truD, notF, andF, orF, andV, orV, notV, chF, chT, bodyEnds, startE, optF, idxF, slcF, intF, noF, newL, tyD, isiT, isiB, lenB, absB, intB, gcdB, tupB, lstB, ltG, leG, gtG, geG, isG, isnG, o2I, isO, getS, addF, subF, mulF, eqG_ii, neG_ii, neG_bb, fdivG, modG, powG, raiseS, wipeE]
    by_cases hl : as.length = 3
    · obtain ⟨a, b, c, rfl⟩ := len3 hl
      simp [i2]
      refine ⟨b, l, rfl, hx.2 b (by simp), ?_⟩
      have h1 := h1 ⟨rfl, rfl⟩
      by_cases hb : endB b = true
      · simp [hb, seqS, setS, retS, retN, exprS, nilS, ifS, parS, asgS, bindT, bindTs, bindF, callC, varF, retF, consF, nilF, iteV, truF, truD, notF, andF, orF, andV, orV, notV, chF, chT, bodyEnds, startE, optF, idxF, slcF, intF, noF, newL, tyD, isiT, isiB, lenB, absB, intB, gcdB, tupB, lstB, ltG, leG, gtG, geG, isG, isnG, o2I, isO, getS, addF, subF, mulF, eqG_ii, neG_ii, neG_bb, fdivG, modG, powG, raiseS, wipeE, i3]
        refine ⟨c, l, rfl, hx.2 c (by simp), ?_⟩
        by_cases hc : endB c = true
        · simp [hb, hc] at h1
          simp [hc, seqS, setS, retS, retN, exprS, nilS, ifS, parS, asgS, bindT, bindTs, bindF, callC, varF, retF, consF, nilF, iteV, truF, truD, notF, andF, orF, andV, orV, notV, chF, chT, bodyEnds, startE, optF, idxF, slcF, intF, noF, newL, tyD, isiT, isiB, lenB, absB, intB, gcdB, tupB, lstB, ltG, leG, gtG, geG, isG, isnG, o2I, isO, getS, addF, subF, mulF, eqG_ii, neG_ii, neG_bb, fdivG, modG, powG, raiseS, wipeE, i1]
          exact h1
        · simp [hb, hc] at h1
          simp [hc, seqS, setS, retS, retN, exprS, nilS, ifS, parS, asgS, bindT, bindTs, bindF, callC, varF, retF, consF, nilF, iteV, truF, truD, notF, andF, orF, andV, orV, notV, chF, chT, bodyEnds, startE, optF, idxF, slcF, intF, noF, newL, tyD, isiT, isiB, lenB, absB, intB, gcdB, tupB, lstB, ltG, leG, gtG, geG, isG, isnG, o2I, isO, getS, addF, subF, mulF, eqG_ii, neG_ii, neG_bb, fdivG, modG, powG, raiseS, wipeE]
          exact h1
      · simp [hb] at h1
        simp [hb, seqS, setS, retS, retN, exprS, nilS, ifS, parS, asgS, bindT, bindTs, bindF, callC, varF, retF, consF, nilF, iteV, truF, truD, notF, andF, orF, andV, orV, notV, chF, chT, bodyEnds, startE, optF, idxF, slcF, intF, noF, newL, tyD, isiT, isiB, lenB, absB, intB, gcdB, tupB, lstB, ltG, leG, gtG, geG, isG, isnG, o2I, isO, getS, addF, subF, mulF, eqG_ii, neG_ii, neG_bb, fdivG, modG, powG, raiseS, wipeE]
        exact h1
    · have e : ¬ ((as.length : Int) + 1 = 4) := by omega
      simp [e]
      exact h0 fun z => hl z.2
  · have e : (w == ("area" : Str)) = false := by simpa using ho
    simp [e, seqS, setS, retS, retN, exprS, nilS, ifS, parS, asgS, bindT, bindTs, bindF, callC, varF, retF, consF, nilF, iteV, truF, truD, notF, andF, orF, andV, orV, notV, chF, chT, bodyEnds, startE, optF, idxF, slcF, intF, noF, newL, tyD, isiT, isiB, lenB, absB, intB, gcdB, tupB, lstB, ltG, leG, gtG, geG, isG, isnG, o2I, isO, getS, addF, subF, mulF, eqG_ii, neG_ii, neG_bb, fdivG, modG, powG, raiseS, wipeE]
    exact h0 fun z => ho z.1
end
theorem left_ok (h : Nat) (c : Ct) (hcc : ∀ e, h = e + 1 → c = cLeft e) (ds : List D) (S : Store) (Q : D → Store → Prop) (E : QX) (hc : cLeft h ds S Q E) :
    fsleft_of cIsTup c cWhole cEnd cLeaf (bodyEnds Q E) (startE Nleft_of ds) S := by
  obtain ⟨v, m, f, l, rfl, hv, hl, hm, hq⟩ := hc
  have hs := sizeLine_eq
  have hdat := okD_dat hv
  cases h with
  | zero =>
    simp only [leftM] at hq
    simp [fsleft_of, fsleft_of_0, seqS, setS, retS, retN, exprS, nilS, ifS, parS, asgS, bindT, bindTs, bindF, callC, varF, retF, consF, nilF, iteV, truF, truD, notF, andF, orF, andV, orV, notV, chF, chT, bodyEnds, startE, optF, idxF, slcF, intF, noF, newL, tyD, isiT, isiB, lenB, absB, intB, gcdB, tupB, lstB, ltG, leG, gtG, geG, isG, isnG, o2I, isO, getS, addF, subF, mulF, eqG_ii, neG_ii, neG_bb, fdivG, modG, powG, raiseS, wipeE, Nleft_of]
    exact hq
  | succ h =>
    have ec := hcc h rfl
    subst ec
    have nz : ¬ ((h : Int) + 1 = 0) := by omega
    by_cases hm0 : m = 0
    · subst hm0
      simp only [leftM, if_pos] at hq
      simp [fsleft_of, fsleft_of_0, seqS, setS, retS, retN, exprS, nilS, ifS, parS, asgS, bindT, bindTs, bindF, callC, varF, retF, consF, nilF, iteV, truF, truD, notF, andF, orF, andV, orV, notV, chF, chT, bodyEnds, startE, optF, idxF, slcF, intF, noF, newL, tyD, isiT, isiB, lenB, absB, intB, gcdB, tupB, lstB, ltG, leG, gtG, geG, isG, isnG, o2I, isO, getS, addF, subF, mulF, eqG_ii, neG_ii, neG_bb, fdivG, modG, powG, raiseS, wipeE, Nleft_of, nz]
      exact hq
    · simp only [leftM, if_neg hm0] at hq
      simp [fsleft_of, fsleft_of_0, seqS, setS, retS, retN, exprS, nilS, ifS, parS, asgS, bindT, bindTs, bindF, callC, varF, retF, consF, nilF, iteV, truF, truD, notF, andF, orF, andV, orV, notV, chF, chT, bodyEnds, startE, optF, idxF, slcF, intF, noF, newL, tyD, isiT, isiB, lenB, absB, intB, gcdB, tupB, lstB, ltG, leG, gtG, geG, isG, isnG, o2I, isO, getS, addF, subF, mulF, eqG_ii, neG_ii, neG_bb, fdivG, modG, powG, raiseS, wipeE, Nleft_of, nz, hm0]
      refine ⟨v, 1, 4, rfl, hdat, ?_⟩
      cases v with
      | tup xs =>
        cases xs with
        | nil => simp at hq; simp [seqS, setS, retS, retN, exprS, nilS, ifS, parS, asgS, bindT, bindTs, bindF, callC, varF, retF, consF, nilF, iteV, truF, truD, notF, andF, orF, andV, orV, notV, chF, chT, bodyEnds, startE, optF, idxF, slcF, intF, noF, newL, tyD, isiT, isiB, lenB, absB, intB, gcdB, tupB, lstB, ltG, leG, gtG, geG, isG, isnG, o2I, isO, getS, addF, subF, mulF, eqG_ii, neG_ii, neG_bb, fdivG, modG, powG, raiseS, wipeE]; exact hq
        | cons x as =>
          have hx := okD_tup.mp hv
          have hxd := okD_dat (hx.2 x (by simp))
          have e1 : decide ((1 : Int) ≤ ((x :: as).length : Nat)) = true := by simp; omega
          by_cases h3 : 3 < as.length
          · have e2 : decide ((((x :: as).length : Nat) : Int) ≤ 4) = false := by simp; omega
            have hq' : Q (.int (-1)) S := by
              cases x with
              | str w => simp [h3] at hq; exact hq
              | _ => simp at hq; exact hq
            simp only [e1, e2, Bool.true_and]
            simp [seqS, setS, retS, retN, exprS, nilS, ifS, parS, asgS, bindT, bindTs, bindF, callC, varF, retF, consF, nilF, iteV, truF, truD, notF, andF, orF, andV, orV, notV, chF, chT, bodyEnds, startE, optF, idxF, slcF, intF, noF, newL, tyD, isiT, isiB, lenB, absB, intB, gcdB, tupB, lstB, ltG, leG, gtG, geG, isG, isnG, o2I, isO, getS, addF, subF, mulF, eqG_ii, neG_ii, neG_bb, fdivG, modG, powG, raiseS, wipeE]
            exact hq'
          · have e2 : decide ((((x :: as).length : Nat) : Int) ≤ 4) = true := by simp; omega
            simp only [e1, e2, Bool.true_and]
            simp [seqS, setS, retS, retN, exprS, nilS, ifS, parS, asgS, bindT, bindTs, bindF, callC, varF, retF, consF, nilF, iteV, truF, truD, notF, andF, orF, andV, orV, notV, chF, chT, bodyEnds, startE, optF, idxF, slcF, intF, noF, newL, tyD, isiT, isiB, lenB, absB, intB, gcdB, tupB, lstB, ltG, leG, gtG, geG, isG, isnG, o2I, isO, getS, addF, subF, mulF, eqG_ii, neG_ii, neG_bb, fdivG, modG, powG, raiseS, wipeE, i0]
            cases x with
            | str w =>
              simp only [if_neg h3] at hq
              simp [seqS, setS, retS, retN, exprS, nilS, ifS, parS, asgS, bindT, bindTs, bindF, callC, varF, retF, consF, nilF, iteV, truF, truD, notF, andF, orF, andV, orV, notV, chF, chT, bodyEnds, startE, optF, idxF, slcF, intF, noF, newL, tyD, isiT, isiB, lenB, absB, intB, gcdB, tupB, lstB, ltG, leG, gtG, geG, isG, isnG, o2I, isO, getS, addF, subF, mulF, eqG_ii, neG_ii, neG_bb, fdivG, modG, powG, raiseS, wipeE]
              refine lp1 (E := _) hv (fun hf => ?_) (fun hf => ?_)
              · rw [if_pos hf] at hq; exact hq
              · rw [if_neg (by rw [hf]; exact Bool.false_ne_true)] at hq
                refine lp2 (E := _) hv (fun h1 => ?_) (fun h1 => ?_)
                · unfold nodeM at hq
                  rw [if_pos h1] at hq
                  obtain ⟨a, rfl⟩ := len1 h1.2
                  exact ⟨a, m - 1, f, l, rfl, hx.2 a (by simp), hl, by omega, hq⟩
                · unfold nodeM at hq
                  rw [if_neg h1] at hq
                  refine lp3 (E := _) hv (fun h2 => ?_) (fun h2 => ?_)
                  · rw [if_pos h2] at hq
                    obtain ⟨a, b, rfl⟩ := len2 h2.2
                    by_cases hb : wholeB ([a, b].getD 1 .non) 0 12 = true
                    · rw [if_pos hb] at hq ⊢
                      exact ⟨a, m - 1, f, l, rfl, hx.2 a (by simp), hl, by omega, hq⟩
                    · rw [if_neg hb] at hq ⊢
                      exact hq
                  · rw [if_neg h2] at hq
                    refine lp4 (E := _) hv hl (by omega) (fun h3 => ?_) (fun h3 => ?_)
                    · rw [if_pos h3] at hq
                      exact hq
                    · rw [if_neg h3] at hq
                      refine lp5 (E := _) hv (fun h4 => ?_) (fun h4 => ?_)
                      · rw [if_pos h4] at hq
                        obtain ⟨a, b, c, rfl⟩ := len3 h4.2
                        by_cases hb : endB ([a, b, c].getD 1 .non) = true ∧ endB ([a, b, c].getD 2 .non) = true
                        · rw [if_pos hb] at hq ⊢
                          exact ⟨a, m - 1, true, l, rfl, hx.2 a (by simp), hl, by omega, hq⟩
                        · rw [if_neg hb] at hq ⊢
                          exact hq
                      · rw [if_neg h4] at hq
                        simp [seqS, setS, retS, retN, exprS, nilS, ifS, parS, asgS, bindT, bindTs, bindF, callC, varF, retF, consF, nilF, iteV, truF, truD, notF, andF, orF, andV, orV, notV, chF, chT, bodyEnds, startE, optF, idxF, slcF, intF, noF, newL, tyD, isiT, isiB, lenB, absB, intB, gcdB, tupB, lstB, ltG, leG, gtG, geG, isG, isnG, o2I, isO, getS, addF, subF, mulF, eqG_ii, neG_ii, neG_bb, fdivG, modG, powG, raiseS, wipeE]
                        refine ⟨w, as, f, l, rfl, hv, hl, ?_⟩
                        by_cases hlf : leafB w as f = true
                        · simp [hlf] at hq
                          simp [hlf, seqS, setS, retS, retN, exprS, nilS, ifS, parS, asgS, bindT, bindTs, bindF, callC, varF, retF, consF, nilF, iteV, truF, truD, notF, andF, orF, andV, orV, notV, chF, chT, bodyEnds, startE, optF, idxF, slcF, intF, noF, newL, tyD, isiT, isiB, lenB, absB, intB, gcdB, tupB, lstB, ltG, leG, gtG, geG, isG, isnG, o2I, isO, getS, addF, subF, mulF, eqG_ii, neG_ii, neG_bb, fdivG, modG, powG, raiseS, wipeE]
                          exact hq
                        · simp [hlf] at hq
                          simp [hlf, seqS, setS, retS, retN, exprS, nilS, ifS, parS, asgS, bindT, bindTs, bindF, callC, varF, retF, consF, nilF, iteV, truF, truD, notF, andF, orF, andV, orV, notV, chF, chT, bodyEnds, startE, optF, idxF, slcF, intF, noF, newL, tyD, isiT, isiB, lenB, absB, intB, gcdB, tupB, lstB, ltG, leG, gtG, geG, isG, isnG, o2I, isO, getS, addF, subF, mulF, eqG_ii, neG_ii, neG_bb, fdivG, modG, powG, raiseS, wipeE]
                          exact hq
            | _ => simp [datD] at hxd <;> simp at hq <;> simp [seqS, setS, retS, retN, exprS, nilS, ifS, parS, asgS, bindT, bindTs, bindF, callC, varF, retF, consF, nilF, iteV, truF, truD, notF, andF, orF, andV, orV, notV, chF, chT, bodyEnds, startE, optF, idxF, slcF, intF, noF, newL, tyD, isiT, isiB, lenB, absB, intB, gcdB, tupB, lstB, ltG, leG, gtG, geG, isG, isnG, o2I, isO, getS, addF, subF, mulF, eqG_ii, neG_ii, neG_bb, fdivG, modG, powG, raiseS, wipeE] <;> exact hq
      | _ => simp [datD] at hdat <;> simp at hq <;> simp [seqS, setS, retS, retN, exprS, nilS, ifS, parS, asgS, bindT, bindTs, bindF, callC, varF, retF, consF, nilF, iteV, truF, truD, notF, andF, orF, andV, orV, notV, chF, chT, bodyEnds, startE, optF, idxF, slcF, intF, noF, newL, tyD, isiT, isiB, lenB, absB, intB, gcdB, tupB, lstB, ltG, leG, gtG, geG, isG, isnG, o2I, isO, getS, addF, subF, mulF, eqG_ii, neG_ii, neG_bb, fdivG, modG, powG, raiseS, wipeE] <;> exact hq
end LawX

set_option Elab.async false
set_option linter.all false
set_option maxRecDepth 100000
set_option maxHeartbeats 0
set_option exponentiation.threshold 5000
namespace LawX
open PySem PySem.Spec PyProof.Rows L2 Dx
/-! ### trees, in plain words -/
def nodeV (rec : Bool → D → Bool) (w : Str) (as : List D) (f : Bool) : Bool :=
  if inL oneL w = true ∧ as.length = 1 then rec f (as.getD 0 .non)
  else if w = "power" ∧ as.length = 2 then wholeB (as.getD 1 .non) 0 12 && rec f (as.getD 0 .non)
  else if inL twoL w = true ∧ as.length = 2 then rec f (as.getD 0 .non) && rec f (as.getD 1 .non)
  else if w = "area" ∧ as.length = 3 then (endB (as.getD 1 .non) && endB (as.getD 2 .non)) && rec true (as.getD 0 .non)
  else leafB w as f
/-- a tree of height h at most -/
def validM : Nat → Bool → D → Bool
  | 0, _, _ => false
  | h + 1, f, .tup (.str w :: as) => !(f && !inL smoL w) && nodeV (validM h) w as f
  | _ + 1, _, _ => false
def isPart : D → Bool
  | .tup (.str _ :: _) => true
  | _ => false
def kidsM : D → List D
  | .tup (_ :: as) => as.filter isPart
  | _ => []
def partsL : Nat → D → List D
  | 0, v => [v]
  | n + 1, v => v :: (kidsM v).flatMap (partsL n)
def maxN : List Nat → Nat
  | [] => 0
  | a :: r => max a (maxN r)
def highM : Nat → D → Nat
  | 0, _ => 1
  | n + 1, v => 1 + maxN ((kidsM v).map (highM n))
theorem valid_form {h : Nat} {f : Bool} {v : D} (hv : validM h f v = true) : ∃ k w as, h = k + 1 ∧ v = .tup (.str w :: as) ∧ (f && !inL smoL w) = false ∧ nodeV (validM k) w as f = true := by
  cases h with
  | zero => cases hv
  | succ k =>
    cases v with
    | tup xs =>
      cases xs with
      | nil => cases hv
      | cons x as =>
        cases x with
        | str w =>
          have e : (!(f && !inL smoL w) && nodeV (validM k) w as f) = true := hv
          simp only [Bool.and_eq_true, Bool.not_eq_true'] at e
          exact ⟨k, w, as, rfl, rfl, e.1, e.2⟩
        | _ => cases hv
    | _ => cases hv
theorem valid_part {h : Nat} {f : Bool} {v : D} (hv : validM h f v = true) : isPart v = true := by
  obtain ⟨k, w, as, _, rfl, _⟩ := valid_form hv
  rfl
/-- the five kinds of nodes -/
inductive Kind (rec : Bool → D → Prop) (w : Str) (f : Bool) : List D → Prop
  | one {a : D} : inL oneL w = true → rec f a → Kind rec w f [a]
  | pow {a n : D} : w = "power" → wholeB n 0 12 = true → rec f a → Kind rec w f [a, n]
  | two {a b : D} : inL twoL w = true → rec f a → rec f b → Kind rec w f [a, b]
  | area {a p q : D} : w = "area" → endB p = true → endB q = true → rec true a → Kind rec w f [a, p, q]
  | leaf {as : List D} : leafB w as f = true → Kind rec w f as
theorem kind_of {rec : Bool → D → Bool} {w : Str} {as : List D} {f : Bool} (h : nodeV rec w as f = true) : Kind (fun f v => rec f v = true) w f as := by
  unfold nodeV at h
  split at h
  · rename_i h1
    obtain ⟨a, rfl⟩ := len1 h1.2
    exact .one h1.1 h
  · split at h
    · rename_i h1
      obtain ⟨a, b, rfl⟩ := len2 h1.2
      simp only [Bool.and_eq_true] at h
      exact .pow h1.1 h.1 h.2
    · split at h
      · rename_i h1
        obtain ⟨a, b, rfl⟩ := len2 h1.2
        simp only [Bool.and_eq_true] at h
        exact .two h1.1 h.1 h.2
      · split at h
        · rename_i h1
          obtain ⟨a, b, c, rfl⟩ := len3 h1.2
          simp only [Bool.and_eq_true] at h
          exact .area h1.1 h.1.1 h.1.2 h.2
        · exact .leaf h
theorem one_words {w : Str} (h : inL oneL w = true) : w = "abs" ∨ w = "atan" ∨ w = "cos" ∨ w = "exp" ∨ w = "log" ∨ w = "minus" ∨ w = "sin" ∨ w = "sqrt" := by
  simp [inL, oneL, eqD] at h
  rcases h with h | h | h | h | h | h | h | h <;> simp [← h]
theorem two_words {w : Str} (h : inL twoL w = true) : w = "by" ∨ w = "least" ∨ w = "less" ∨ w = "most" ∨ w = "plus" ∨ w = "times" := by
  simp [inL, twoL, eqD] at h
  rcases h with h | h | h | h | h | h <;> simp [← h]
theorem one_not {w : Str} (h : inL oneL w = true) : inL twoL w = false ∧ w ≠ "power" ∧ w ≠ "area" ∧ (∀ as f, leafB w as f = false) := by
  rcases one_words h with rfl | rfl | rfl | rfl | rfl | rfl | rfl | rfl <;> exact ⟨by decide +kernel, by decide +kernel, by decide +kernel, fun as f => by unfold leafB; rw [if_neg (by decide +kernel), if_neg (by decide +kernel), if_neg (by decide +kernel), if_neg (by decide +kernel)]⟩
theorem two_not {w : Str} (h : inL twoL w = true) : inL oneL w = false ∧ w ≠ "power" ∧ w ≠ "area" ∧ (∀ as f, leafB w as f = false) := by
  rcases two_words h with rfl | rfl | rfl | rfl | rfl | rfl <;> exact ⟨by decide +kernel, by decide +kernel, by decide +kernel, fun as f => by unfold leafB; rw [if_neg (by decide +kernel), if_neg (by decide +kernel), if_neg (by decide +kernel), if_neg (by decide +kernel)]⟩
theorem pow_not : inL oneL "power" = false ∧ inL twoL "power" = false ∧ (∀ as f, leafB "power" as f = false) := ⟨by decide +kernel, by decide +kernel, fun as f => by unfold leafB; rw [if_neg (by decide +kernel), if_neg (by decide +kernel), if_neg (by decide +kernel), if_neg (by decide +kernel)]⟩
theorem area_not : inL oneL "area" = false ∧ inL twoL "area" = false ∧ (∀ as f, leafB "area" as f = false) := ⟨by decide +kernel, by decide +kernel, fun as f => by unfold leafB; rw [if_neg (by decide +kernel), if_neg (by decide +kernel), if_neg (by decide +kernel), if_neg (by decide +kernel)]⟩
theorem kind_node {rec : Bool → D → Bool} {w : Str} {as : List D} {f : Bool} (h : Kind (fun f v => rec f v = true) w f as) : nodeV rec w as f = true := by
  cases h with
  | one h1 h2 => unfold nodeV; rw [if_pos ⟨h1, rfl⟩]; exact h2
  | pow h1 h2 h3 =>
    subst h1
    unfold nodeV
    rw [if_neg (fun z => by rw [pow_not.1] at z; cases z.1), if_pos ⟨rfl, rfl⟩]
    simp only [Bool.and_eq_true]
    exact ⟨h2, h3⟩
  | two h1 h2 h3 =>
    obtain ⟨n1, n2, n3, n4⟩ := two_not h1
    unfold nodeV
    rw [if_neg (fun z => by rw [n1] at z; cases z.1), if_neg (fun z => n2 z.1), if_pos ⟨h1, rfl⟩]
    simp only [Bool.and_eq_true]
    exact ⟨h2, h3⟩
  | area h1 h2 h3 h4 =>
    subst h1
    unfold nodeV
    rw [if_neg (fun z => by rw [area_not.1] at z; cases z.1), if_neg (fun z => by cases z.2), if_neg (fun z => by rw [area_not.2.1] at z; cases z.1), if_pos ⟨rfl, rfl⟩]
    simp only [Bool.and_eq_true]
    exact ⟨⟨h2, h3⟩, h4⟩
  | leaf h1 =>
    unfold nodeV
    rw [if_neg (fun z => by rw [(one_not z.1).2.2.2] at h1; cases h1), if_neg (fun z => by rw [z.1, pow_not.2.2] at h1; cases h1), if_neg (fun z => by rw [(two_not z.1).2.2.2] at h1; cases h1), if_neg (fun z => by rw [z.1, area_not.2.2] at h1; cases h1)]
    exact h1
theorem valid_iff {h : Nat} {f : Bool} {w : Str} {as : List D} : validM (h + 1) f (.tup (.str w :: as)) = true ↔ (f && !inL smoL w) = false ∧ Kind (fun f v => validM h f v = true) w f as := by
  have e : validM (h + 1) f (.tup (.str w :: as)) = (!(f && !inL smoL w) && nodeV (validM h) w as f) := rfl
  rw [e]
  simp only [Bool.and_eq_true, Bool.not_eq_true']
  exact ⟨fun z => ⟨z.1, kind_of z.2⟩, fun z => ⟨z.1, kind_node z.2⟩⟩
/-! ### what are parts -/
theorem whole_not {d : D} {a b : Int} (h : wholeB d a b = true) : isPart d = false := by
  obtain ⟨i, rfl, _⟩ := whole_int h
  rfl
theorem frac_not {d : D} (h : isFrac d = true) : isPart d = false := by
  obtain ⟨a, b, rfl, _⟩ := frac_form h
  rfl
theorem end_frac {d : D} (h : endB d = true) : isFrac d = true := by
  unfold endB at h
  split at h
  · simp only [Bool.and_eq_true] at h; exact h.1
  · cases h
theorem line_not {d : D} (h : lineB d = true) : isPart d = false := by
  obtain ⟨xs, rfl⟩ := line_form h
  cases xs with
  | nil => rfl
  | cons x t =>
    simp only [lineB, Bool.and_eq_true, List.all_cons] at h
    obtain ⟨i, rfl, _⟩ := whole_int h.2.1.1
    rfl
theorem leaf_kids {w : Str} {as : List D} {f : Bool} (h : leafB w as f = true) : as.filter isPart = [] := by
  unfold leafB at h
  split at h
  · split at h
    · rename_i q
      simp [frac_not h]
    · cases h
  · split at h
    · cases as with
      | nil => rfl
      | cons _ _ => cases h
    · split at h
      · cases as with
        | nil => rfl
        | cons _ _ => simp at h
      · split at h
        · split at h
          · rename_i l k
            simp only [Bool.and_eq_true] at h
            simp [line_not h.1, whole_not h.2.2]
          · cases h
        · cases h
end LawX

set_option Elab.async false
set_option linter.all false
set_option maxRecDepth 100000
set_option maxHeartbeats 0
set_option exponentiation.threshold 5000
namespace LawX
open PySem PySem.Spec PyProof.Rows L2 Dx
theorem parts_succ {h : Nat} {v : D} : partsL (h + 1) v = v :: (kidsM v).flatMap (partsL h) := rfl
/-- the children -/
inductive Kids (h : Nat) (w : Str) (f : Bool) : List D → List (Bool × D) → Prop
  | one {a : D} : inL oneL w = true → validM h f a = true → Kids h w f [a] [(f, a)]
  | pow {a n : D} : w = "power" → wholeB n 0 12 = true → validM h f a = true → Kids h w f [a, n] [(f, a)]
  | two {a b : D} : inL twoL w = true → validM h f a = true → validM h f b = true → Kids h w f [a, b] [(f, a), (f, b)]
  | area {a p q : D} : w = "area" → endB p = true → endB q = true → validM h true a = true → Kids h w f [a, p, q] [(true, a)]
  | leaf {as : List D} : leafB w as f = true → Kids h w f as []
theorem kids_ex {h : Nat} {w : Str} {f : Bool} {as : List D} (k : Kind (fun f v => validM h f v = true) w f as) : ∃ cs, Kids h w f as cs := by
  cases k with
  | one a b => exact ⟨_, .one a b⟩
  | pow a b c => exact ⟨_, .pow a b c⟩
  | two a b c => exact ⟨_, .two a b c⟩
  | area a b c d => exact ⟨_, .area a b c d⟩
  | leaf a => exact ⟨_, .leaf a⟩
theorem Kids.valid {h : Nat} {w : Str} {f : Bool} {as : List D} {cs : List (Bool × D)} (k : Kids h w f as cs) : ∀ c ∈ cs, validM h c.1 c.2 = true := by
  cases k <;> simp_all
theorem Kids.kids {h : Nat} {w : Str} {f : Bool} {as : List D} {cs : List (Bool × D)} (k : Kids h w f as cs) : kidsM (.tup (.str w :: as)) = cs.map (·.2) := by
  cases k with
  | one a b => simp [kidsM, valid_part b]
  | pow a b c => simp [kidsM, valid_part c, whole_not b]
  | two a b c => simp [kidsM, valid_part b, valid_part c]
  | area a b c d => simp [kidsM, valid_part d, frac_not (end_frac b), frac_not (end_frac c)]
  | leaf a => simp [kidsM, leaf_kids a]
theorem Kids.kind {h n : Nat} {w : Str} {f : Bool} {as : List D} {cs : List (Bool × D)} (k : Kids h w f as cs) (hv : ∀ c ∈ cs, validM n c.1 c.2 = true) : Kind (fun f v => validM n f v = true) w f as := by
  cases k with
  | one a b => exact .one a (hv (f, _) (by simp))
  | pow a b c => exact .pow a b (hv (f, _) (by simp))
  | two a b c => exact .two a (hv (f, _) (by simp)) (hv (f, _) (by simp))
  | area a b c d => exact .area a b c (hv (true, _) (by simp))
  | leaf a => exact .leaf a
theorem maxN_le {l : List Nat} {n : Nat} : maxN l ≤ n ↔ ∀ x ∈ l, x ≤ n := by
  induction l with
  | nil => simp [maxN]
  | cons a r ih => simp [maxN, ih, Nat.max_le]
theorem valid_kids {h : Nat} {f : Bool} {v : D} (hv : validM h f v = true) : ∃ k w as cs, h = k + 1 ∧ v = .tup (.str w :: as) ∧ (f && !inL smoL w) = false ∧ Kids k w f as cs := by
  obtain ⟨k, w, as, e1, e2, h1, h2⟩ := valid_form hv
  obtain ⟨cs, hk⟩ := kids_ex (kind_of h2)
  exact ⟨k, w, as, cs, e1, e2, h1, hk⟩
/-- more fuel changes nothing -/
theorem valid_more : ∀ (h : Nat) (f : Bool) (v : D), validM h f v = true → ∀ n, h ≤ n → validM n f v = true ∧ partsL n v = partsL h v ∧ highM n v ≤ h
  | 0, _, _, hv, _, _ => by cases hv
  | h + 1, f, v, hv, n, hn => by
    obtain ⟨k, w, as, cs, e1, rfl, h1, hk⟩ := valid_kids hv
    have e1 : h = k := by omega
    subst e1
    obtain ⟨n', rfl⟩ : ∃ n', n = n' + 1 := ⟨n - 1, by omega⟩
    have ih : ∀ c ∈ cs, validM n' c.1 c.2 = true ∧ partsL n' c.2 = partsL h c.2 ∧ highM n' c.2 ≤ h := fun c hc => valid_more h c.1 c.2 (hk.valid c hc) n' (by omega)
    refine ⟨valid_iff.mpr ⟨h1, hk.kind fun c hc => (ih c hc).1⟩, ?_, ?_⟩
    · unfold partsL
      rw [hk.kids, List.flatMap_map, List.flatMap_map]
      congr 1
      have : ∀ l : List (Bool × D), (∀ c ∈ l, partsL n' c.2 = partsL h c.2) → List.flatMap (fun a => partsL n' a.2) l = List.flatMap (fun a => partsL h a.2) l := by
        intro l
        induction l with
        | nil => intro _; rfl
        | cons c r ihl => intro hl; simp only [List.flatMap_cons]; rw [hl c (by simp), ihl fun z hz => hl z (by simp [hz])]
      exact this cs fun c hc => (ih c hc).2.1
    · unfold highM
      rw [hk.kids]
      have : maxN ((cs.map (·.2)).map (highM n')) ≤ h := maxN_le.mpr fun x hx => by
        simp only [List.map_map, List.mem_map] at hx
        obtain ⟨c, hc, rfl⟩ := hx
        exact (ih c hc).2.2
      omega
/-- less fuel where it is not so high -/
theorem valid_less : ∀ (n : Nat) (f : Bool) (v : D) (h : Nat), validM n f v = true → highM n v ≤ h → validM h f v = true
  | 0, _, _, _, hv, _ => by cases hv
  | n + 1, f, v, h, hv, hh => by
    obtain ⟨k, w, as, cs, e1, rfl, h1, hk⟩ := valid_kids hv
    have e1 : n = k := by omega
    subst e1
    unfold highM at hh
    rw [hk.kids] at hh
    obtain ⟨h', rfl⟩ : ∃ h', h = h' + 1 := ⟨h - 1, by omega⟩
    have hm : maxN ((cs.map (·.2)).map (highM n)) ≤ h' := by omega
    refine valid_iff.mpr ⟨h1, hk.kind fun c hc => valid_less n c.1 c.2 h' (hk.valid c hc) (maxN_le.mp hm _ ?_)⟩
    simp only [List.map_map, List.mem_map]
    exact ⟨c, hc, rfl⟩
theorem parts_len1 {h : Nat} {v : D} : 1 ≤ (partsL h v).length := by cases h <;> simp [partsL]
theorem leafB_len {w : Str} {as : List D} {f : Bool} (h : leafB w as f = true) : as.length ≤ 2 := by
  unfold leafB at h
  split at h
  · split at h
    · simp
    · cases h
  · split at h
    · cases as <;> simp at h ⊢
    · split at h
      · cases as <;> simp at h ⊢
      · split at h
        · split at h
          · simp
          · cases h
        · cases h
theorem kids_len {h : Nat} {w : Str} {f : Bool} {as : List D} {cs : List (Bool × D)} (k : Kids h w f as cs) : as.length ≤ 3 := by
  cases k with
  | leaf a => have := leafB_len a; omega
  | _ => simp
/-- the nodes left -/
theorem left_is : ∀ (h : Nat) (f : Bool) (v : D) (m : Int), 0 ≤ m → leftM h f v m = if validM h f v = true ∧ ((partsL h v).length : Int) ≤ m then m - (partsL h v).length else -1
  | 0, f, v, m, hm => by
    unfold leftM
    rw [if_neg]
    rintro ⟨z, _⟩
    cases z
  | h + 1, f, v, m, hm => by
    have hp := parts_len1 (h := h + 1) (v := v)
    unfold leftM
    by_cases h0 : m = 0
    · rw [if_pos h0, if_neg]
      rintro ⟨_, z⟩
      omega
    · rw [if_neg h0]
      have noV : validM (h + 1) f v = false → (-1 : Int) = if validM (h + 1) f v = true ∧ ((partsL (h + 1) v).length : Int) ≤ m then m - (partsL (h + 1) v).length else -1 := fun e => by
        rw [if_neg]
        rintro ⟨z, _⟩
        rw [e] at z; cases z
      cases v with
      | tup xs =>
        cases xs with
        | nil => exact noV rfl
        | cons x as =>
          cases x with
          | str w =>
            show (if 3 < as.length then -1 else if (f && !inL smoL w) = true then -1 else nodeM (leftM h) w as f m) = _
            by_cases h3 : 3 < as.length
            · rw [if_pos h3]
              refine noV ?_
              cases q : validM (h + 1) f (.tup (.str w :: as)) with
              | false => rfl
              | true =>
                obtain ⟨k, w', as', cs, e1, e2, _, hk⟩ := valid_kids q
                cases e2
                have := kids_len hk
                omega
            · rw [if_neg h3]
              by_cases hf : (f && !inL smoL w) = true
              · rw [if_pos hf]
                refine noV ?_
                show (!(f && !inL smoL w) && nodeV (validM h) w as f) = false
                rw [hf]
                rfl
              · rw [if_neg hf]
                have hf : (f && !inL smoL w) = false := by simpa using hf
                have ev : validM (h + 1) f (.tup (.str w :: as)) = nodeV (validM h) w as f := by
                  show (!(f && !inL smoL w) && nodeV (validM h) w as f) = _
                  rw [hf]
                  rfl
                -- one child
                have single : ∀ (f' : Bool) (a : D), (validM h f' a = true → kidsM (.tup (.str w :: as)) = [a]) → (validM (h + 1) f (.tup (.str w :: as)) = validM h f' a) →
                    leftM h f' a (m - 1) = if validM (h + 1) f (.tup (.str w :: as)) = true ∧ ((partsL (h + 1) (.tup (.str w :: as))).length : Int) ≤ m then m - (partsL (h + 1) (.tup (.str w :: as))).length else -1 := by
                  intro f' a hk he
                  rw [left_is h f' a (m - 1) (by omega), he]
                  by_cases hv : validM h f' a = true
                  · have el : (partsL (h + 1) (.tup (.str w :: as))).length = (partsL h a).length + 1 := by
                      rw [parts_succ, hk hv]
                      simp
                    rw [el]
                    by_cases hl : ((partsL h a).length : Int) ≤ m - 1
                    · rw [if_pos ⟨hv, hl⟩, if_pos ⟨hv, by omega⟩]
                      omega
                    · rw [if_neg (fun z => hl z.2), if_neg (fun z => hl (by have := z.2; omega))]
                  · rw [if_neg (fun z => hv z.1), if_neg (fun z => hv z.1)]
                unfold nodeM
                unfold nodeV at ev
                by_cases c1 : inL oneL w = true ∧ as.length = 1
                · rw [if_pos c1] at ev ⊢
                  obtain ⟨a, rfl⟩ := len1 c1.2
                  exact single f a (fun hv => by have := (Kids.one c1.1 hv).kids; simpa using this) ev
                · rw [if_neg c1] at ev ⊢
                  by_cases c2 : w = "power" ∧ as.length = 2
                  · rw [if_pos c2] at ev ⊢
                    obtain ⟨a, b, rfl⟩ := len2 c2.2
                    by_cases hb : wholeB ([a, b].getD 1 .non) 0 12 = true
                    · rw [if_pos hb]
                      rw [hb, Bool.true_and] at ev
                      exact single f a (fun hv => by have := (Kids.pow c2.1 hb hv).kids; simpa using this) ev
                    · rw [if_neg hb]
                      simp only [Bool.not_eq_true] at hb
                      rw [hb, Bool.false_and] at ev
                      exact noV ev
                  · rw [if_neg c2] at ev ⊢
                    by_cases c3 : inL twoL w = true ∧ as.length = 2
                    · rw [if_pos c3] at ev ⊢
                      obtain ⟨a, b, rfl⟩ := len2 c3.2
                      show (if 0 ≤ leftM h f a (m - 1) then leftM h f b (leftM h f a (m - 1)) else -1) = _
                      have ev : validM (h + 1) f (.tup [.str w, a, b]) = (validM h f a && validM h f b) := ev
                      rw [left_is h f a (m - 1) (by omega)]
                      have pa := parts_len1 (h := h) (v := a)
                      have pb := parts_len1 (h := h) (v := b)
                      by_cases ha : validM h f a = true ∧ ((partsL h a).length : Int) ≤ m - 1
                      · rw [if_pos ha, if_pos (by omega), left_is h f b _ (by omega)]
                        by_cases hb : validM h f b = true
                        · have el : (partsL (h + 1) (.tup [.str w, a, b])).length = (partsL h a).length + (partsL h b).length + 1 := by
                            rw [parts_succ, (Kids.two c3.1 ha.1 hb).kids]
                            simp
                          rw [el, ev, ha.1, hb]
                          by_cases hl : ((partsL h b).length : Int) ≤ m - 1 - (partsL h a).length
                          · rw [if_pos ⟨rfl, hl⟩, if_pos ⟨rfl, by omega⟩]
                            omega
                          · rw [if_neg (fun z => hl z.2), if_neg (fun z => hl (by have := z.2; omega))]
                        · rw [if_neg (fun z => hb z.1)]
                          exact noV (by rw [ev]; simp only [Bool.not_eq_true] at hb; rw [hb, Bool.and_false])
                      · rw [if_neg ha, if_neg (by omega)]
                        by_cases hva : validM h f a = true
                        · rw [if_neg]
                          rintro ⟨z, zl⟩
                          rw [ev] at z
                          simp only [Bool.and_eq_true] at z
                          have el : (partsL (h + 1) (.tup [.str w, a, b])).length = (partsL h a).length + (partsL h b).length + 1 := by
                            rw [parts_succ, (Kids.two c3.1 z.1 z.2).kids]
                            simp
                          rw [el] at zl
                          exact ha ⟨hva, by omega⟩
                        · exact noV (by rw [ev]; simp only [Bool.not_eq_true] at hva; rw [hva, Bool.false_and])
                    · rw [if_neg c3] at ev ⊢
                      by_cases c4 : w = "area" ∧ as.length = 3
                      · rw [if_pos c4] at ev ⊢
                        obtain ⟨a, b, c, rfl⟩ := len3 c4.2
                        by_cases hb : endB ([a, b, c].getD 1 .non) = true ∧ endB ([a, b, c].getD 2 .non) = true
                        · rw [if_pos hb]
                          rw [hb.1, hb.2, Bool.true_and, Bool.true_and] at ev
                          exact single true a (fun hv => by have := (Kids.area (f := f) c4.1 hb.1 hb.2 hv).kids; simpa using this) ev
                        · rw [if_neg hb]
                          refine noV ?_
                          rw [ev]
                          cases e1 : endB ([a, b, c].getD 1 .non) with
                          | false => rfl
                          | true =>
                            cases e2 : endB ([a, b, c].getD 2 .non) with
                            | false => rfl
                            | true => exact absurd ⟨e1, e2⟩ hb
                      · rw [if_neg c4] at ev ⊢
                        by_cases hlf : leafB w as f = true
                        · have el : (partsL (h + 1) (.tup (.str w :: as))).length = 1 := by
                            rw [parts_succ, (Kids.leaf (h := h) hlf).kids]
                            rfl
                          rw [if_pos hlf, el, ev, if_pos ⟨hlf, by omega⟩]
                          rfl
                        · rw [if_neg hlf]
                          exact noV (by rw [ev]; simpa using hlf)
          | _ => exact noV rfl
      | _ => exact noV rfl
end LawX

set_option Elab.async false
set_option linter.all false
set_option maxRecDepth 100000
set_option maxHeartbeats 0
set_option exponentiation.threshold 5000
namespace LawX
open PySem PySem.Spec PyProof.Rows L2 Dx
def treeB (f : Bool) (v : D) : Bool := validM 12 f v && decide ((partsL 12 v).length ≤ 40)
def cTreeF (f : Bool) : Ct := fun ds S Q _ => ∃ v l, ds = [v] ∧ okD l v = true ∧ l ≤ 1000 ∧ Q (.bl (treeB f v)) S
theorem left_tree {f : Bool} {v : D} : decide (0 ≤ leftM 12 f v 40) = treeB f v := by
  rw [left_is 12 f v 40 (by decide), Bool.eq_iff_iff]
  simp only [treeB, decide_eq_true_eq, Bool.and_eq_true]
  by_cases hc : validM 12 f v = true ∧ ((partsL 12 v).length : Int) ≤ 40
  · rw [if_pos hc]
    exact ⟨fun _ => ⟨hc.1, by have := hc.2; omega⟩, fun _ => by have := hc.2; omega⟩
  · rw [if_neg hc]
    exact ⟨fun z => absurd z (by decide), fun z => absurd ⟨z.1, by have := z.2; omega⟩ hc⟩
theorem fitsT_ok (ds : List D) (S : Store) (Q : D → Store → Prop) (E : QX) (h : cTreeF false ds S Q E) : fsfits_tree (cLeft 12) (bodyEnds Q E) (startE Nfits_tree ds) S := by
  obtain ⟨v, l, rfl, hv, hl, hq⟩ := h
  simp [fsfits_tree, seqS, setS, retS, retN, exprS, nilS, ifS, parS, asgS, bindT, bindTs, bindF, callC, varF, retF, consF, nilF, iteV, truF, truD, notF, andF, orF, andV, orV, notV, chF, chT, bodyEnds, startE, optF, idxF, slcF, intF, noF, newL, tyD, isiT, isiB, lenB, absB, intB, gcdB, tupB, lstB, ltG, leG, gtG, geG, isG, isnG, o2I, isO, getS, addF, subF, mulF, eqG_ii, neG_ii, neG_bb, fdivG, modG, powG, raiseS, wipeE, Nfits_tree]
  refine ⟨v, 40, false, l, rfl, hv, hl, by decide, ?_⟩
  simp [seqS, setS, retS, retN, exprS, nilS, ifS, parS, asgS, bindT, bindTs, bindF, callC, varF, retF, consF, nilF, iteV, truF, truD, notF, andF, orF, andV, orV, notV, chF, chT, bodyEnds, startE, optF, idxF, slcF, intF, noF, newL, tyD, isiT, isiB, lenB, absB, intB, gcdB, tupB, lstB, ltG, leG, gtG, geG, isG, isnG, o2I, isO, getS, addF, subF, mulF, eqG_ii, neG_ii, neG_bb, fdivG, modG, powG, raiseS, wipeE, left_tree]
  exact hq
theorem isT_ok (ds : List D) (S : Store) (Q : D → Store → Prop) (E : QX) (h : cTreeF false ds S Q E) : fsis_tree (cTreeF false) (bodyEnds Q E) (startE Nis_tree ds) S := by
  obtain ⟨v, l, rfl, hv, hl, hq⟩ := h
  simp [fsis_tree, seqS, setS, retS, retN, exprS, nilS, ifS, parS, asgS, bindT, bindTs, bindF, callC, varF, retF, consF, nilF, iteV, truF, truD, notF, andF, orF, andV, orV, notV, chF, chT, bodyEnds, startE, optF, idxF, slcF, intF, noF, newL, tyD, isiT, isiB, lenB, absB, intB, gcdB, tupB, lstB, ltG, leG, gtG, geG, isG, isnG, o2I, isO, getS, addF, subF, mulF, eqG_ii, neG_ii, neG_bb, fdivG, modG, powG, raiseS, wipeE, Nis_tree]
  exact ⟨v, l, rfl, hv, hl, hq⟩
theorem fitsI_ok (ds : List D) (S : Store) (Q : D → Store → Prop) (E : QX) (h : cTreeF true ds S Q E) : fsfits_integrand (cLeft 12) (bodyEnds Q E) (startE Nfits_integrand ds) S := by
  obtain ⟨v, l, rfl, hv, hl, hq⟩ := h
  simp [fsfits_integrand, seqS, setS, retS, retN, exprS, nilS, ifS, parS, asgS, bindT, bindTs, bindF, callC, varF, retF, consF, nilF, iteV, truF, truD, notF, andF, orF, andV, orV, notV, chF, chT, bodyEnds, startE, optF, idxF, slcF, intF, noF, newL, tyD, isiT, isiB, lenB, absB, intB, gcdB, tupB, lstB, ltG, leG, gtG, geG, isG, isnG, o2I, isO, getS, addF, subF, mulF, eqG_ii, neG_ii, neG_bb, fdivG, modG, powG, raiseS, wipeE, Nfits_integrand]
  refine ⟨v, 40, true, l, rfl, hv, hl, by decide, ?_⟩
  simp [seqS, setS, retS, retN, exprS, nilS, ifS, parS, asgS, bindT, bindTs, bindF, callC, varF, retF, consF, nilF, iteV, truF, truD, notF, andF, orF, andV, orV, notV, chF, chT, bodyEnds, startE, optF, idxF, slcF, intF, noF, newL, tyD, isiT, isiB, lenB, absB, intB, gcdB, tupB, lstB, ltG, leG, gtG, geG, isG, isnG, o2I, isO, getS, addF, subF, mulF, eqG_ii, neG_ii, neG_bb, fdivG, modG, powG, raiseS, wipeE, left_tree]
  exact hq
theorem isI_ok (ds : List D) (S : Store) (Q : D → Store → Prop) (E : QX) (h : cTreeF true ds S Q E) : fsis_integrand (cTreeF true) (bodyEnds Q E) (startE Nis_integrand ds) S := by
  obtain ⟨v, l, rfl, hv, hl, hq⟩ := h
  simp [fsis_integrand, seqS, setS, retS, retN, exprS, nilS, ifS, parS, asgS, bindT, bindTs, bindF, callC, varF, retF, consF, nilF, iteV, truF, truD, notF, andF, orF, andV, orV, notV, chF, chT, bodyEnds, startE, optF, idxF, slcF, intF, noF, newL, tyD, isiT, isiB, lenB, absB, intB, gcdB, tupB, lstB, ltG, leG, gtG, geG, isG, isnG, o2I, isO, getS, addF, subF, mulF, eqG_ii, neG_ii, neG_bb, fdivG, modG, powG, raiseS, wipeE, Nis_integrand]
  exact ⟨v, l, rfl, hv, hl, hq⟩
def cNeedT : Ct := fun ds S Q E => ∃ v l, ds = [v] ∧ okD l v = true ∧ l ≤ 1000 ∧ if treeB false v = true then Q .non S else E ⟨"InvalidTree", []⟩ S
theorem needT_ok (ds : List D) (S : Store) (Q : D → Store → Prop) (E : QX) (h : cNeedT ds S Q E) : fsneed_tree (cTreeF false) (bodyEnds Q E) (startE Nneed_tree ds) S := by
  obtain ⟨v, l, rfl, hv, hl, hq⟩ := h
  simp [fsneed_tree, seqS, setS, retS, retN, exprS, nilS, ifS, parS, asgS, bindT, bindTs, bindF, callC, varF, retF, consF, nilF, iteV, truF, truD, notF, andF, orF, andV, orV, notV, chF, chT, bodyEnds, startE, optF, idxF, slcF, intF, noF, newL, tyD, isiT, isiB, lenB, absB, intB, gcdB, tupB, lstB, ltG, leG, gtG, geG, isG, isnG, o2I, isO, getS, addF, subF, mulF, eqG_ii, neG_ii, neG_bb, fdivG, modG, powG, raiseS, wipeE, Nneed_tree]
  refine ⟨v, l, rfl, hv, hl, ?_⟩
  by_cases ht : treeB false v = true
  · simp [ht] at hq
    simp [ht, seqS, setS, retS, retN, exprS, nilS, ifS, parS, asgS, bindT, bindTs, bindF, callC, varF, retF, consF, nilF, iteV, truF, truD, notF, andF, orF, andV, orV, notV, chF, chT, bodyEnds, startE, optF, idxF, slcF, intF, noF, newL, tyD, isiT, isiB, lenB, absB, intB, gcdB, tupB, lstB, ltG, leG, gtG, geG, isG, isnG, o2I, isO, getS, addF, subF, mulF, eqG_ii, neG_ii, neG_bb, fdivG, modG, powG, raiseS, wipeE]
    exact hq
  · simp [ht] at hq
    simp [ht, seqS, setS, retS, retN, exprS, nilS, ifS, parS, asgS, bindT, bindTs, bindF, callC, varF, retF, consF, nilF, iteV, truF, truD, notF, andF, orF, andV, orV, notV, chF, chT, bodyEnds, startE, optF, idxF, slcF, intF, noF, newL, tyD, isiT, isiB, lenB, absB, intB, gcdB, tupB, lstB, ltG, leG, gtG, geG, isG, isnG, o2I, isO, getS, addF, subF, mulF, eqG_ii, neG_ii, neG_bb, fdivG, modG, powG, raiseS, wipeE]
    exact hq
/-! ### inner, parts -/
theorem leaf_words {w : Str} {as : List D} {f : Bool} (h : leafB w as f = true) : w = "number" ∨ w = "pi" ∨ w = "unknown" ∨ w = "root" := by
  unfold leafB at h
  by_cases h1 : w = "number"
  · exact .inl h1
  · rw [if_neg h1] at h
    by_cases h2 : w = "pi"
    · exact .inr (.inl h2)
    · rw [if_neg h2] at h
      by_cases h3 : w = "unknown"
      · exact .inr (.inr (.inl h3))
      · rw [if_neg h3] at h
        by_cases h4 : w = "root"
        · exact .inr (.inr (.inr h4))
        · rw [if_neg h4] at h; cases h
def apL : List D := [.str "area", .str "power"]
theorem in_ap {w : Str} (hw : datD (.str w) = true) {τ : Dx.Env} {S : Store} {Q : D → Store → Prop} {E : QX} : inG (.str w) (.tup apL) τ S Q E = Q (.bl (inL apL w)) S := (anyB_in hw (by simp [depD]) (by decide +kernel) (by decide +kernel)).1
def cInner : Ct := fun ds S Q _ => ∃ v h f l, ds = [v] ∧ validM h f v = true ∧ okD l v = true ∧ Q (.tup (kidsM v)) S
theorem inner_ok (ds : List D) (S : Store) (Q : D → Store → Prop) (E : QX) (hc : cInner ds S Q E) : fsinner (bodyEnds Q E) (startE Ninner ds) S := by
  obtain ⟨v, h, f, l, rfl, hv, ho, hq⟩ := hc
  have hs := sizeLine_eq
  have z1 : ∀ k : Nat, k ≤ 100 → k ≤ sizeLine := fun k h => by omega
  obtain ⟨k, w, as, cs, _, rfl, h1, hk⟩ := valid_kids hv
  have hw := str_dat ho
  rw [hk.kids] at hq
  simp [fsinner, seqS, setS, retS, retN, exprS, nilS, ifS, parS, asgS, bindT, bindTs, bindF, callC, varF, retF, consF, nilF, iteV, truF, truD, notF, andF, orF, andV, orV, notV, chF, chT, bodyEnds, startE, optF, idxF, slcF, intF, noF, newL, tyD, isiT, isiB, lenB, absB, intB, gcdB, tupB, lstB, ltG, leG, gtG, geG, isG, isnG, o2I, isO, getS, addF, subF, mulF, eqG_ii, neG_ii, neG_bb, fdivG, modG, powG, raiseS, wipeE, Ninner, i0, z1]
  refine cast (in_one hw).symm ?_
  cases hk with
  | one a b =>
    simp [a, seqS, setS, retS, retN, exprS, nilS, ifS, parS, asgS, bindT, bindTs, bindF, callC, varF, retF, consF, nilF, iteV, truF, truD, notF, andF, orF, andV, orV, notV, chF, chT, bodyEnds, startE, optF, idxF, slcF, intF, noF, newL, tyD, isiT, isiB, lenB, absB, intB, gcdB, tupB, lstB, ltG, leG, gtG, geG, isG, isnG, o2I, isO, getS, addF, subF, mulF, eqG_ii, neG_ii, neG_bb, fdivG, modG, powG, raiseS, wipeE, i1, z1]
    exact hq
  | pow a b c =>
    subst a
    simp [pow_not.1, seqS, setS, retS, retN, exprS, nilS, ifS, parS, asgS, bindT, bindTs, bindF, callC, varF, retF, consF, nilF, iteV, truF, truD, notF, andF, orF, andV, orV, notV, chF, chT, bodyEnds, startE, optF, idxF, slcF, intF, noF, newL, tyD, isiT, isiB, lenB, absB, intB, gcdB, tupB, lstB, ltG, leG, gtG, geG, isG, isnG, o2I, isO, getS, addF, subF, mulF, eqG_ii, neG_ii, neG_bb, fdivG, modG, powG, raiseS, wipeE, i0, z1]
    refine cast (in_ap hw).symm ?_
    have e : inL apL "power" = true := by decide +kernel
    simp [e, seqS, setS, retS, retN, exprS, nilS, ifS, parS, asgS, bindT, bindTs, bindF, callC, varF, retF, consF, nilF, iteV, truF, truD, notF, andF, orF, andV, orV, notV, chF, chT, bodyEnds, startE, optF, idxF, slcF, intF, noF, newL, tyD, isiT, isiB, lenB, absB, intB, gcdB, tupB, lstB, ltG, leG, gtG, geG, isG, isnG, o2I, isO, getS, addF, subF, mulF, eqG_ii, neG_ii, neG_bb, fdivG, modG, powG, raiseS, wipeE, i1, z1]
    exact hq
  | @two x y a b c =>
    obtain ⟨n1, n2, n3, _⟩ := two_not a
    simp [n1, seqS, setS, retS, retN, exprS, nilS, ifS, parS, asgS, bindT, bindTs, bindF, callC, varF, retF, consF, nilF, iteV, truF, truD, notF, andF, orF, andV, orV, notV, chF, chT, bodyEnds, startE, optF, idxF, slcF, intF, noF, newL, tyD, isiT, isiB, lenB, absB, intB, gcdB, tupB, lstB, ltG, leG, gtG, geG, isG, isnG, o2I, isO, getS, addF, subF, mulF, eqG_ii, neG_ii, neG_bb, fdivG, modG, powG, raiseS, wipeE, i0, z1]
    refine cast (in_ap hw).symm ?_
    have e : inL apL w = false := by
      rcases two_words a with rfl | rfl | rfl | rfl | rfl | rfl <;> decide +kernel
    simp [e, seqS, setS, retS, retN, exprS, nilS, ifS, parS, asgS, bindT, bindTs, bindF, callC, varF, retF, consF, nilF, iteV, truF, truD, notF, andF, orF, andV, orV, notV, chF, chT, bodyEnds, startE, optF, idxF, slcF, intF, noF, newL, tyD, isiT, isiB, lenB, absB, intB, gcdB, tupB, lstB, ltG, leG, gtG, geG, isG, isnG, o2I, isO, getS, addF, subF, mulF, eqG_ii, neG_ii, neG_bb, fdivG, modG, powG, raiseS, wipeE, i0]
    refine cast (in_two hw).symm ?_
    have ec : Dx.cutD [D.str w, x, y] (some 1) none = [x, y] := by rw [cut_from (by decide)]; rfl
    simp [a, seqS, setS, retS, retN, exprS, nilS, ifS, parS, asgS, bindT, bindTs, bindF, callC, varF, retF, consF, nilF, iteV, truF, truD, notF, andF, orF, andV, orV, notV, chF, chT, bodyEnds, startE, optF, idxF, slcF, intF, noF, newL, tyD, isiT, isiB, lenB, absB, intB, gcdB, tupB, lstB, ltG, leG, gtG, geG, isG, isnG, o2I, isO, getS, addF, subF, mulF, eqG_ii, neG_ii, neG_bb, fdivG, modG, powG, raiseS, wipeE, ec]
    exact hq
  | area a b c d =>
    subst a
    simp [area_not.1, seqS, setS, retS, retN, exprS, nilS, ifS, parS, asgS, bindT, bindTs, bindF, callC, varF, retF, consF, nilF, iteV, truF, truD, notF, andF, orF, andV, orV, notV, chF, chT, bodyEnds, startE, optF, idxF, slcF, intF, noF, newL, tyD, isiT, isiB, lenB, absB, intB, gcdB, tupB, lstB, ltG, leG, gtG, geG, isG, isnG, o2I, isO, getS, addF, subF, mulF, eqG_ii, neG_ii, neG_bb, fdivG, modG, powG, raiseS, wipeE, i0, z1]
    refine cast (in_ap hw).symm ?_
    have e : inL apL "area" = true := by decide +kernel
    simp [e, seqS, setS, retS, retN, exprS, nilS, ifS, parS, asgS, bindT, bindTs, bindF, callC, varF, retF, consF, nilF, iteV, truF, truD, notF, andF, orF, andV, orV, notV, chF, chT, bodyEnds, startE, optF, idxF, slcF, intF, noF, newL, tyD, isiT, isiB, lenB, absB, intB, gcdB, tupB, lstB, ltG, leG, gtG, geG, isG, isnG, o2I, isO, getS, addF, subF, mulF, eqG_ii, neG_ii, neG_bb, fdivG, modG, powG, raiseS, wipeE, i1, z1]
    exact hq
  | leaf a =>
    have e0 : inL oneL w = false ∧ inL apL w = false ∧ inL twoL w = false := by
      rcases leaf_words a with rfl | rfl | rfl | rfl <;> decide +kernel
    simp [e0.1, seqS, setS, retS, retN, exprS, nilS, ifS, parS, asgS, bindT, bindTs, bindF, callC, varF, retF, consF, nilF, iteV, truF, truD, notF, andF, orF, andV, orV, notV, chF, chT, bodyEnds, startE, optF, idxF, slcF, intF, noF, newL, tyD, isiT, isiB, lenB, absB, intB, gcdB, tupB, lstB, ltG, leG, gtG, geG, isG, isnG, o2I, isO, getS, addF, subF, mulF, eqG_ii, neG_ii, neG_bb, fdivG, modG, powG, raiseS, wipeE, i0, z1]
    refine cast (in_ap hw).symm ?_
    simp [e0.2.1, seqS, setS, retS, retN, exprS, nilS, ifS, parS, asgS, bindT, bindTs, bindF, callC, varF, retF, consF, nilF, iteV, truF, truD, notF, andF, orF, andV, orV, notV, chF, chT, bodyEnds, startE, optF, idxF, slcF, intF, noF, newL, tyD, isiT, isiB, lenB, absB, intB, gcdB, tupB, lstB, ltG, leG, gtG, geG, isG, isnG, o2I, isO, getS, addF, subF, mulF, eqG_ii, neG_ii, neG_bb, fdivG, modG, powG, raiseS, wipeE, i0]
    refine cast (in_two hw).symm ?_
    simp [e0.2.2, seqS, setS, retS, retN, exprS, nilS, ifS, parS, asgS, bindT, bindTs, bindF, callC, varF, retF, consF, nilF, iteV, truF, truD, notF, andF, orF, andV, orV, notV, chF, chT, bodyEnds, startE, optF, idxF, slcF, intF, noF, newL, tyD, isiT, isiB, lenB, absB, intB, gcdB, tupB, lstB, ltG, leG, gtG, geG, isG, isnG, o2I, isO, getS, addF, subF, mulF, eqG_ii, neG_ii, neG_bb, fdivG, modG, powG, raiseS, wipeE, z1]
    exact hq
theorem kids_ok {h l : Nat} {w : Str} {f : Bool} {as : List D} {cs : List (Bool × D)} (k : Kids h w f as cs) (ho : okD l (.tup (.str w :: as)) = true) : ∀ c ∈ cs, okD l c.2 = true := by
  have hx := okD_tup.mp ho
  cases k with
  | one a b => intro c hc; simp at hc; subst hc; exact hx.2 _ (by simp)
  | pow a b c => intro c hc; simp at hc; subst hc; exact hx.2 _ (by simp)
  | two a b c =>
    intro c hc
    simp at hc
    rcases hc with rfl | rfl
    · exact hx.2 _ (by simp)
    · exact hx.2 _ (by simp)
  | area a b c d => intro c hc; simp at hc; subst hc; exact hx.2 _ (by simp)
  | leaf a => intro c hc; cases hc
def cParts (h : Nat) : Ct := fun ds S Q _ => ∃ v f l, ds = [v] ∧ validM h f v = true ∧ okD l v = true ∧ (partsL h v).length ≤ sizeLine ∧ Q (.lst (partsL h v)) S
theorem kids_few {h : Nat} {w : Str} {f : Bool} {as : List D} {cs : List (Bool × D)} (k : Kids h w f as cs) : cs = [] ∨ (∃ c, cs = [c]) ∨ ∃ c d, cs = [c, d] := by
  cases k with
  | leaf a => exact .inl rfl
  | two a b c => exact .inr (.inr ⟨_, _, rfl⟩)
  | _ => exact .inr (.inl ⟨_, rfl⟩)
theorem parts_ok (h : Nat) (c : Ct) (hcc : ∀ e, h = e + 1 → c = cParts e) (ds : List D) (S : Store) (Q : D → Store → Prop) (E : QX) (hc : cParts h ds S Q E) : fsparts cInner c (bodyEnds Q E) (startE Nparts ds) S := by
  obtain ⟨v, f, l, rfl, hv, ho, hlen, hq⟩ := hc
  have hs := sizeLine_eq
  have z1 : ∀ k : Nat, k ≤ 100 → k ≤ sizeLine := fun k h => by omega
  obtain ⟨k, w, as, cs, rfl, rfl, h1, hk⟩ := valid_kids hv
  rw [hcc k rfl]
  have hko := kids_ok hk ho
  have hkv := hk.valid
  rw [parts_succ, hk.kids] at hq hlen
  simp [fsparts, seqS, setS, retS, retN, exprS, nilS, ifS, parS, asgS, bindT, bindTs, bindF, callC, varF, retF, consF, nilF, iteV, truF, truD, notF, andF, orF, andV, orV, notV, chF, chT, bodyEnds, startE, optF, idxF, slcF, intF, noF, newL, tyD, isiT, isiB, lenB, absB, intB, gcdB, tupB, lstB, ltG, leG, gtG, geG, isG, isnG, o2I, isO, getS, addF, subF, mulF, eqG_ii, neG_ii, neG_bb, fdivG, modG, powG, raiseS, wipeE, Nparts, z1, forS]
  refine ⟨_, k + 1, f, l, rfl, hv, ho, ?_⟩
  rw [hk.kids]
  simp [itsF, seqS, setS, retS, retN, exprS, nilS, ifS, parS, asgS, bindT, bindTs, bindF, callC, varF, retF, consF, nilF, iteV, truF, truD, notF, andF, orF, andV, orV, notV, chF, chT, bodyEnds, startE, optF, idxF, slcF, intF, noF, newL, tyD, isiT, isiB, lenB, absB, intB, gcdB, tupB, lstB, ltG, leG, gtG, geG, isG, isnG, o2I, isO, getS, addF, subF, mulF, eqG_ii, neG_ii, neG_bb, fdivG, modG, powG, raiseS, wipeE]
  rcases kids_few hk with rfl | ⟨c1, rfl⟩ | ⟨c1, c2, rfl⟩
  · simp at hq
    simp [forL, seqS, setS, retS, retN, exprS, nilS, ifS, parS, asgS, bindT, bindTs, bindF, callC, varF, retF, consF, nilF, iteV, truF, truD, notF, andF, orF, andV, orV, notV, chF, chT, bodyEnds, startE, optF, idxF, slcF, intF, noF, newL, tyD, isiT, isiB, lenB, absB, intB, gcdB, tupB, lstB, ltG, leG, gtG, geG, isG, isnG, o2I, isO, getS, addF, subF, mulF, eqG_ii, neG_ii, neG_bb, fdivG, modG, powG, raiseS, wipeE]
    exact hq
  · simp at hq hlen
    simp [forL, seqS, setS, retS, retN, exprS, nilS, ifS, parS, asgS, bindT, bindTs, bindF, callC, varF, retF, consF, nilF, iteV, truF, truD, notF, andF, orF, andV, orV, notV, chF, chT, bodyEnds, startE, optF, idxF, slcF, intF, noF, newL, tyD, isiT, isiB, lenB, absB, intB, gcdB, tupB, lstB, ltG, leG, gtG, geG, isG, isnG, o2I, isO, getS, addF, subF, mulF, eqG_ii, neG_ii, neG_bb, fdivG, modG, powG, raiseS, wipeE]
    refine ⟨_, c1.1, l, rfl, hkv c1 (by simp), hko c1 (by simp), by omega, ?_⟩
    simp [seqS, setS, retS, retN, exprS, nilS, ifS, parS, asgS, bindT, bindTs, bindF, callC, varF, retF, consF, nilF, iteV, truF, truD, notF, andF, orF, andV, orV, notV, chF, chT, bodyEnds, startE, optF, idxF, slcF, intF, noF, newL, tyD, isiT, isiB, lenB, absB, intB, gcdB, tupB, lstB, ltG, leG, gtG, geG, isG, isnG, o2I, isO, getS, addF, subF, mulF, eqG_ii, neG_ii, neG_bb, fdivG, modG, powG, raiseS, wipeE]
    exact ⟨by omega, hq⟩
  · simp at hq hlen
    simp [forL, seqS, setS, retS, retN, exprS, nilS, ifS, parS, asgS, bindT, bindTs, bindF, callC, varF, retF, consF, nilF, iteV, truF, truD, notF, andF, orF, andV, orV, notV, chF, chT, bodyEnds, startE, optF, idxF, slcF, intF, noF, newL, tyD, isiT, isiB, lenB, absB, intB, gcdB, tupB, lstB, ltG, leG, gtG, geG, isG, isnG, o2I, isO, getS, addF, subF, mulF, eqG_ii, neG_ii, neG_bb, fdivG, modG, powG, raiseS, wipeE]
    refine ⟨_, c1.1, l, rfl, hkv c1 (by simp), hko c1 (by simp), by omega, ?_⟩
    simp [seqS, setS, retS, retN, exprS, nilS, ifS, parS, asgS, bindT, bindTs, bindF, callC, varF, retF, consF, nilF, iteV, truF, truD, notF, andF, orF, andV, orV, notV, chF, chT, bodyEnds, startE, optF, idxF, slcF, intF, noF, newL, tyD, isiT, isiB, lenB, absB, intB, gcdB, tupB, lstB, ltG, leG, gtG, geG, isG, isnG, o2I, isO, getS, addF, subF, mulF, eqG_ii, neG_ii, neG_bb, fdivG, modG, powG, raiseS, wipeE]
    refine ⟨by omega, _, c2.1, l, rfl, hkv c2 (by simp), hko c2 (by simp), by omega, ?_⟩
    simp [seqS, setS, retS, retN, exprS, nilS, ifS, parS, asgS, bindT, bindTs, bindF, callC, varF, retF, consF, nilF, iteV, truF, truD, notF, andF, orF, andV, orV, notV, chF, chT, bodyEnds, startE, optF, idxF, slcF, intF, noF, newL, tyD, isiT, isiB, lenB, absB, intB, gcdB, tupB, lstB, ltG, leG, gtG, geG, isG, isnG, o2I, isO, getS, addF, subF, mulF, eqG_ii, neG_ii, neG_bb, fdivG, modG, powG, raiseS, wipeE]
    exact ⟨by omega, hq⟩
end LawX

set_option Elab.async false
set_option linter.all false
set_option maxRecDepth 100000
set_option maxHeartbeats 0
set_option exponentiation.threshold 5000
namespace LawX
open PySem PySem.Spec PyProof.Rows L2 Dx
def headD : D → D
  | .tup (x :: _) => x
  | _ => .non
def toldL : List D := [.str "abs", .str "by", .str "least", .str "less", .str "minus", .str "most", .str "number", .str "plus", .str "power", .str "root", .str "sqrt", .str "times"]
def toldP (p : D) : Bool := match p with
  | .tup (.str w :: _) => inL toldL w
  | _ => false
theorem in_told {w : Str} (hw : datD (.str w) = true) {τ : Dx.Env} {S : Store} {Q : D → Store → Prop} {E : QX} : inG (.str w) (.tup toldL) τ S Q E = Q (.bl (inL toldL w)) S := (anyB_in hw (by simp [depD]) (by decide +kernel) (by decide +kernel)).1
/-- every part is a tree with its word -/
theorem parts_form : ∀ (h : Nat) (f : Bool) (v : D) (l : Nat), validM h f v = true → okD l v = true → ∀ p ∈ partsL h v, (∃ w as, p = .tup (.str w :: as)) ∧ okD l p = true
  | 0, _, _, _, hv, _, _, _ => by cases hv
  | h + 1, f, v, l, hv, ho, p, hp => by
    obtain ⟨k, w, as, cs, e1, rfl, h1, hk⟩ := valid_kids hv
    have e1 : h = k := by omega
    subst e1
    rw [parts_succ, hk.kids] at hp
    rcases List.mem_cons.mp hp with rfl | hp
    · exact ⟨⟨w, as, rfl⟩, ho⟩
    · obtain ⟨q, hq, hp⟩ := List.mem_flatMap.mp hp
      obtain ⟨c, hc, rfl⟩ := List.mem_map.mp hq
      exact parts_form h c.1 c.2 l (hk.valid c hc) (kids_ok hk ho c hc) p hp
def cTold : Ct := fun ds S Q _ => ∃ v f l, ds = [v] ∧ validM 12 f v = true ∧ okD l v = true ∧ (partsL 12 v).length ≤ 40 ∧ Q (.bl ((partsL 12 v).all toldP)) S
theorem told_ok (ds : List D) (S : Store) (Q : D → Store → Prop) (E : QX) (hc : cTold ds S Q E) : fsis_told (cParts 12) (bodyEnds Q E) (startE Nis_told ds) S := by
  obtain ⟨v, f, l, rfl, hv, ho, hlen, hq⟩ := hc
  have hs := sizeLine_eq
  have pf := parts_form 12 f v l hv ho
  simp [fsis_told, seqS, setS, retS, retN, exprS, nilS, ifS, parS, asgS, bindT, bindTs, bindF, callC, varF, retF, consF, nilF, iteV, truF, truD, notF, andF, orF, andV, orV, notV, chF, chT, bodyEnds, startE, optF, idxF, slcF, intF, noF, newL, tyD, isiT, isiB, lenB, absB, intB, gcdB, tupB, lstB, ltG, leG, gtG, geG, isG, isnG, o2I, isO, getS, addF, subF, mulF, eqG_ii, neG_ii, neG_bb, fdivG, modG, powG, raiseS, wipeE, Nis_told]
  refine compF_val (partsL 12 v) (fun _ => True) (fun _ => true) (fun p => .bl (toldP p)) (fun Q h => ?_) trivial (by omega) (fun d hd => ⟨_, rfl, fun Q h => h, fun _ Q h => ?_⟩) ?_
  · simp [seqS, setS, retS, retN, exprS, nilS, ifS, parS, asgS, bindT, bindTs, bindF, callC, varF, retF, consF, nilF, iteV, truF, truD, notF, andF, orF, andV, orV, notV, chF, chT, bodyEnds, startE, optF, idxF, slcF, intF, noF, newL, tyD, isiT, isiB, lenB, absB, intB, gcdB, tupB, lstB, ltG, leG, gtG, geG, isG, isnG, o2I, isO, getS, addF, subF, mulF, eqG_ii, neG_ii, neG_bb, fdivG, modG, powG, raiseS, wipeE]
    refine ⟨v, f, l, rfl, hv, ho, by omega, ?_⟩
    simp [itsF, seqS, setS, retS, retN, exprS, nilS, ifS, parS, asgS, bindT, bindTs, bindF, callC, varF, retF, consF, nilF, iteV, truF, truD, notF, andF, orF, andV, orV, notV, chF, chT, bodyEnds, startE, optF, idxF, slcF, intF, noF, newL, tyD, isiT, isiB, lenB, absB, intB, gcdB, tupB, lstB, ltG, leG, gtG, geG, isG, isnG, o2I, isO, getS, addF, subF, mulF, eqG_ii, neG_ii, neG_bb, fdivG, modG, powG, raiseS, wipeE]
    exact h
  · obtain ⟨⟨w, as, rfl⟩, hok⟩ := pf d hd
    simp [seqS, setS, retS, retN, exprS, nilS, ifS, parS, asgS, bindT, bindTs, bindF, callC, varF, retF, consF, nilF, iteV, truF, truD, notF, andF, orF, andV, orV, notV, chF, chT, bodyEnds, startE, optF, idxF, slcF, intF, noF, newL, tyD, isiT, isiB, lenB, absB, intB, gcdB, tupB, lstB, ltG, leG, gtG, geG, isG, isnG, o2I, isO, getS, addF, subF, mulF, eqG_ii, neG_ii, neG_bb, fdivG, modG, powG, raiseS, wipeE, i0]
    refine cast (in_told (str_dat hok)).symm ?_
    exact h
  · have ef : (partsL 12 v).filter (fun _ => true) = partsL 12 v := by simp
    rw [ef]
    have e2 : allSome asBl ((partsL 12 v).map fun p => .bl (toldP p)) = some ((partsL 12 v).map toldP) := allSome_map
    simp only [Dx.allB, optF, getS, e2, Option.map_some]
    simpa [bodyEnds, List.all_map] using hq
def cAlg : Ct := fun ds S Q E => ∃ v l, ds = [v] ∧ okD l v = true ∧ l ≤ 1000 ∧ if treeB false v = true then Q (.bl ((partsL 12 v).all toldP)) S else E ⟨"InvalidTree", []⟩ S
theorem tree_parts {f : Bool} {v : D} (h : treeB f v = true) : validM 12 f v = true ∧ (partsL 12 v).length ≤ 40 := by
  simp only [treeB, Bool.and_eq_true, decide_eq_true_eq] at h
  exact h
theorem alg_ok (ds : List D) (S : Store) (Q : D → Store → Prop) (E : QX) (hc : cAlg ds S Q E) : fsis_algebraic cNeedT cTold (bodyEnds Q E) (startE Nis_algebraic ds) S := by
  obtain ⟨v, l, rfl, hv, hl, hq⟩ := hc
  simp [fsis_algebraic, seqS, setS, retS, retN, exprS, nilS, ifS, parS, asgS, bindT, bindTs, bindF, callC, varF, retF, consF, nilF, iteV, truF, truD, notF, andF, orF, andV, orV, notV, chF, chT, bodyEnds, startE, optF, idxF, slcF, intF, noF, newL, tyD, isiT, isiB, lenB, absB, intB, gcdB, tupB, lstB, ltG, leG, gtG, geG, isG, isnG, o2I, isO, getS, addF, subF, mulF, eqG_ii, neG_ii, neG_bb, fdivG, modG, powG, raiseS, wipeE, Nis_algebraic]
  refine ⟨v, l, rfl, hv, hl, ?_⟩
  by_cases ht : treeB false v = true
  · obtain ⟨h1, h2⟩ := tree_parts ht
    rw [if_pos ht] at hq ⊢
    simp [seqS, setS, retS, retN, exprS, nilS, ifS, parS, asgS, bindT, bindTs, bindF, callC, varF, retF, consF, nilF, iteV, truF, truD, notF, andF, orF, andV, orV, notV, chF, chT, bodyEnds, startE, optF, idxF, slcF, intF, noF, newL, tyD, isiT, isiB, lenB, absB, intB, gcdB, tupB, lstB, ltG, leG, gtG, geG, isG, isnG, o2I, isO, getS, addF, subF, mulF, eqG_ii, neG_ii, neG_bb, fdivG, modG, powG, raiseS, wipeE]
    exact ⟨v, false, l, rfl, h1, hv, h2, hq⟩
  · rw [if_neg ht] at hq ⊢
    exact hq
def cSize : Ct := fun ds S Q E => ∃ v l, ds = [v] ∧ okD l v = true ∧ l ≤ 1000 ∧ if treeB false v = true then Q (.int (partsL 12 v).length) S else E ⟨"InvalidTree", []⟩ S
theorem size_ok (ds : List D) (S : Store) (Q : D → Store → Prop) (E : QX) (hc : cSize ds S Q E) : fssize_of cNeedT (cParts 12) (bodyEnds Q E) (startE Nsize_of ds) S := by
  obtain ⟨v, l, rfl, hv, hl, hq⟩ := hc
  have hs := sizeLine_eq
  simp [fssize_of, seqS, setS, retS, retN, exprS, nilS, ifS, parS, asgS, bindT, bindTs, bindF, callC, varF, retF, consF, nilF, iteV, truF, truD, notF, andF, orF, andV, orV, notV, chF, chT, bodyEnds, startE, optF, idxF, slcF, intF, noF, newL, tyD, isiT, isiB, lenB, absB, intB, gcdB, tupB, lstB, ltG, leG, gtG, geG, isG, isnG, o2I, isO, getS, addF, subF, mulF, eqG_ii, neG_ii, neG_bb, fdivG, modG, powG, raiseS, wipeE, Nsize_of]
  refine ⟨v, l, rfl, hv, hl, ?_⟩
  by_cases ht : treeB false v = true
  · obtain ⟨h1, h2⟩ := tree_parts ht
    rw [if_pos ht] at hq ⊢
    simp [seqS, setS, retS, retN, exprS, nilS, ifS, parS, asgS, bindT, bindTs, bindF, callC, varF, retF, consF, nilF, iteV, truF, truD, notF, andF, orF, andV, orV, notV, chF, chT, bodyEnds, startE, optF, idxF, slcF, intF, noF, newL, tyD, isiT, isiB, lenB, absB, intB, gcdB, tupB, lstB, ltG, leG, gtG, geG, isG, isnG, o2I, isO, getS, addF, subF, mulF, eqG_ii, neG_ii, neG_bb, fdivG, modG, powG, raiseS, wipeE]
    refine ⟨v, false, l, rfl, h1, hv, by omega, ?_⟩
    simp [seqS, setS, retS, retN, exprS, nilS, ifS, parS, asgS, bindT, bindTs, bindF, callC, varF, retF, consF, nilF, iteV, truF, truD, notF, andF, orF, andV, orV, notV, chF, chT, bodyEnds, startE, optF, idxF, slcF, intF, noF, newL, tyD, isiT, isiB, lenB, absB, intB, gcdB, tupB, lstB, ltG, leG, gtG, geG, isG, isnG, o2I, isO, getS, addF, subF, mulF, eqG_ii, neG_ii, neG_bb, fdivG, modG, powG, raiseS, wipeE]
    exact hq
  · rw [if_neg ht] at hq ⊢
    exact hq
def cSort : Ct := fun ds S Q E => ∃ v n l, ds = [v, n] ∧ okD l v = true ∧ l ≤ 1000 ∧ datD n = true ∧ (treeB false v = false → E ⟨"InvalidTree", []⟩ S) ∧
  (treeB false v = true → wholeB n 0 ((partsL 12 v).length - 1) = false → E ⟨"InvalidNumber", []⟩ S) ∧ (treeB false v = true → ∀ (k : Nat) (p : D), n = .int k → (partsL 12 v)[k]? = some p → Q (headD p) S)
theorem sort_ok (ds : List D) (S : Store) (Q : D → Store → Prop) (E : QX) (hc : cSort ds S Q E) : fssort_at cNeedT cWhole (cParts 12) (bodyEnds Q E) (startE Nsort_at ds) S := by
  obtain ⟨v, n, l, rfl, hv, hl, hn, q1, q2, q3⟩ := hc
  have hs := sizeLine_eq
  simp [fssort_at, seqS, setS, retS, retN, exprS, nilS, ifS, parS, asgS, bindT, bindTs, bindF, callC, varF, retF, consF, nilF, iteV, truF, truD, notF, andF, orF, andV, orV, notV, chF, chT, bodyEnds, startE, optF, idxF, slcF, intF, noF, newL, tyD, isiT, isiB, lenB, absB, intB, gcdB, tupB, lstB, ltG, leG, gtG, geG, isG, isnG, o2I, isO, getS, addF, subF, mulF, eqG_ii, neG_ii, neG_bb, fdivG, modG, powG, raiseS, wipeE, Nsort_at]
  refine ⟨v, l, rfl, hv, hl, ?_⟩
  cases ht : treeB false v with
  | false =>
    rw [if_neg Bool.false_ne_true]
    exact q1 ht
  | true =>
    obtain ⟨h1, h2⟩ := tree_parts ht
    have q2 := q2 ht
    have q3 := q3 ht
    rw [if_pos rfl]
    simp [seqS, setS, retS, retN, exprS, nilS, ifS, parS, asgS, bindT, bindTs, bindF, callC, varF, retF, consF, nilF, iteV, truF, truD, notF, andF, orF, andV, orV, notV, chF, chT, bodyEnds, startE, optF, idxF, slcF, intF, noF, newL, tyD, isiT, isiB, lenB, absB, intB, gcdB, tupB, lstB, ltG, leG, gtG, geG, isG, isnG, o2I, isO, getS, addF, subF, mulF, eqG_ii, neG_ii, neG_bb, fdivG, modG, powG, raiseS, wipeE]
    refine ⟨v, false, l, rfl, h1, hv, by omega, ?_⟩
    simp [seqS, setS, retS, retN, exprS, nilS, ifS, parS, asgS, bindT, bindTs, bindF, callC, varF, retF, consF, nilF, iteV, truF, truD, notF, andF, orF, andV, orV, notV, chF, chT, bodyEnds, startE, optF, idxF, slcF, intF, noF, newL, tyD, isiT, isiB, lenB, absB, intB, gcdB, tupB, lstB, ltG, leG, gtG, geG, isG, isnG, o2I, isO, getS, addF, subF, mulF, eqG_ii, neG_ii, neG_bb, fdivG, modG, powG, raiseS, wipeE]
    refine ⟨n, _, _, rfl, hn, ?_⟩
    cases hw : wholeB n 0 ((partsL 12 v).length - 1) with
    | false =>
      simp [hw, seqS, setS, retS, retN, exprS, nilS, ifS, parS, asgS, bindT, bindTs, bindF, callC, varF, retF, consF, nilF, iteV, truF, truD, notF, andF, orF, andV, orV, notV, chF, chT, bodyEnds, startE, optF, idxF, slcF, intF, noF, newL, tyD, isiT, isiB, lenB, absB, intB, gcdB, tupB, lstB, ltG, leG, gtG, geG, isG, isnG, o2I, isO, getS, addF, subF, mulF, eqG_ii, neG_ii, neG_bb, fdivG, modG, powG, raiseS, wipeE]
      exact q2 hw
    | true =>
      obtain ⟨i, rfl, i0', i1'⟩ := whole_int hw
      obtain ⟨k, rfl⟩ : ∃ k : Nat, i = k := ⟨i.toNat, by omega⟩
      have hk : k < (partsL 12 v).length := by omega
      have e : L2.atI (partsL 12 v) (k : Int) = some (partsL 12 v)[k] := by
        unfold L2.atI L2.ixN
        rw [if_pos (by omega), if_pos (by omega)]
        simp [hk]
      simp [hw, seqS, setS, retS, retN, exprS, nilS, ifS, parS, asgS, bindT, bindTs, bindF, callC, varF, retF, consF, nilF, iteV, truF, truD, notF, andF, orF, andV, orV, notV, chF, chT, bodyEnds, startE, optF, idxF, slcF, intF, noF, newL, tyD, isiT, isiB, lenB, absB, intB, gcdB, tupB, lstB, ltG, leG, gtG, geG, isG, isnG, o2I, isO, getS, addF, subF, mulF, eqG_ii, neG_ii, neG_bb, fdivG, modG, powG, raiseS, wipeE]
      refine ⟨v, false, l, rfl, h1, hv, by omega, ?_⟩
      simp [seqS, setS, retS, retN, exprS, nilS, ifS, parS, asgS, bindT, bindTs, bindF, callC, varF, retF, consF, nilF, iteV, truF, truD, notF, andF, orF, andV, orV, notV, chF, chT, bodyEnds, startE, optF, idxF, slcF, intF, noF, newL, tyD, isiT, isiB, lenB, absB, intB, gcdB, tupB, lstB, ltG, leG, gtG, geG, isG, isnG, o2I, isO, getS, addF, subF, mulF, eqG_ii, neG_ii, neG_bb, fdivG, modG, powG, raiseS, wipeE, e]
      obtain ⟨⟨w, as, ew⟩, _⟩ := parts_form 12 false v l h1 hv _ (List.getElem_mem hk)
      have := q3 k _ rfl (List.getElem?_eq_getElem hk)
      rw [ew] at this ⊢
      simp [i0, seqS, setS, retS, retN, exprS, nilS, ifS, parS, asgS, bindT, bindTs, bindF, callC, varF, retF, consF, nilF, iteV, truF, truD, notF, andF, orF, andV, orV, notV, chF, chT, bodyEnds, startE, optF, idxF, slcF, intF, noF, newL, tyD, isiT, isiB, lenB, absB, intB, gcdB, tupB, lstB, ltG, leG, gtG, geG, isG, isnG, o2I, isO, getS, addF, subF, mulF, eqG_ii, neG_ii, neG_bb, fdivG, modG, powG, raiseS, wipeE]
      exact this
end LawX

set_option Elab.async false
set_option linter.all false
set_option maxRecDepth 100000
set_option maxHeartbeats 0
set_option exponentiation.threshold 5000
namespace LawX
open PySem PySem.Spec PyProof.Rows L2 Dx
def nonL : List D := [.str "abs", .str "area", .str "atan", .str "by", .str "least", .str "log", .str "most", .str "root", .str "sqrt"]
theorem in_lst {w : Str} {ds : List D} (hw : datD (.str w) = true) (hd : datDs ds = true) (dd : depDs ds ≤ 63) {τ : Dx.Env} {S : Store} {Q : D → Store → Prop} {E : QX} : inG (.str w) (.lst ds) τ S Q E = Q (.bl (inL ds w)) S := (anyB_in hw (by simp [depD]) hd dd).2.1
theorem in_non {w : Str} (hw : datD (.str w) = true) {τ : Dx.Env} {S : Store} {Q : D → Store → Prop} {E : QX} : inG (.str w) (.lst nonL) τ S Q E = Q (.bl (inL nonL w)) S := in_lst hw (by decide +kernel) (by decide +kernel)
theorem in_one' {w : Str} (hw : datD (.str w) = true) {τ : Dx.Env} {S : Store} {Q : D → Store → Prop} {E : QX} : inG (.str w) (.lst oneL) τ S Q E = Q (.bl (inL oneL w)) S := in_lst hw (by decide +kernel) (by decide +kernel)
theorem in_two' {w : Str} (hw : datD (.str w) = true) {τ : Dx.Env} {S : Store} {Q : D → Store → Prop} {E : QX} : inG (.str w) (.lst twoL) τ S Q E = Q (.bl (inL twoL w)) S := in_lst hw (by decide +kernel) (by decide +kernel)
theorem eq_num {w : Str} (hw : datD (.str w) = true) {τ : Dx.Env} {S : Store} {Q : D → Store → Prop} {E : QX} : eqG (.str w) (.str "number") τ S Q E = Q (.bl (w == "number")) S := eqG_ss hw (by decide +kernel)
theorem eq_root {w : Str} (hw : datD (.str w) = true) {τ : Dx.Env} {S : Store} {Q : D → Store → Prop} {E : QX} : eqG (.str w) (.str "root") τ S Q E = Q (.bl (w == "root")) S := eqG_ss hw (by decide +kernel)
def cLTree (h : Nat) : Ct := fun ds S Q _ => ∃ v f l, ds = [v, .bl f] ∧ okD l v = true ∧ l ≤ 1000 ∧ depD v ≤ h ∧ h ≤ 60 ∧ Q (.bl (validM h f v)) S
abbrev ltE2 (v : D) (f : Bool) : Dx.Env := [some v, some (.bl f), none, none]
def badB : D → Bool
  | .tup (.int a :: .int b :: _) => decide (8 * b < a.natAbs)
  | _ => false
section
variable {E : DEnds} {S : Store} {w : Str} {as : List D} {k l : Nat} {f : Bool}
theorem wp1 (hv : okD l (.tup (.str w :: as)) = true) (h1 : (f && inL nonL w) = true → E.rt (.bl false) S) (h0 : (f && inL nonL w) = false → E.nx (ltE2 (.tup (.str w :: as)) f) S) : fs_law_is_tree_1 E (ltE2 (.tup (.str w :: as)) f) S := by
  have hw := str_dat hv
  have hs := sizeLine_eq
  have z1 : ∀ k : Nat, k ≤ 100 → k ≤ sizeLine := fun k h => by omega
  cases f with
  | false => simp at h0; simp [fs_law_is_tree_1, seqS, setS, retS, retN, exprS, nilS, ifS, parS, asgS, bindT, bindTs, bindF, callC, varF, retF, consF, nilF, iteV, truF, truD, notF, andF, orF, andV, orV, notV, chF, chT, bodyEnds, startE, optF, idxF, slcF, intF, noF, newL, tyD, isiT, isiB, lenB, absB, intB, gcdB, tupB, lstB, ltG, leG, gtG, geG, isG, isnG, o2I, isO, getS, addF, subF, mulF, eqG_ii, neG_ii, neG_bb, fdivG, modG, powG, raiseS, wipeE, i0]; exact h0
  | true =>
    simp [fs_law_is_tree_1, seqS, setS, retS, retN, exprS, nilS, ifS, parS, asgS, bindT, bindTs, bindF, callC, varF, retF, consF, nilF, iteV, truF, truD, notF, andF, orF, andV, orV, notV, chF, chT, bodyEnds, startE, optF, idxF, slcF, intF, noF, newL, tyD, isiT, isiB, lenB, absB, intB, gcdB, tupB, lstB, ltG, leG, gtG, geG, isG, isnG, o2I, isO, getS, addF, subF, mulF, eqG_ii, neG_ii, neG_bb, fdivG, modG, powG, raiseS, wipeE, i0, z1]
    refine cast (in_non hw).symm ?_
    cases hs : inL nonL w with
    | true => simp [hs] at h1; simp [seqS, setS, retS, retN, exprS, nilS, ifS, parS, asgS, bindT, bindTs, bindF, callC, varF, retF, consF, nilF, iteV, truF, truD, notF, andF, orF, andV, orV, notV, chF, chT, bodyEnds, startE, optF, idxF, slcF, intF, noF, newL, tyD, isiT, isiB, lenB, absB, intB, gcdB, tupB, lstB, ltG, leG, gtG, geG, isG, isnG, o2I, isO, getS, addF, subF, mulF, eqG_ii, neG_ii, neG_bb, fdivG, modG, powG, raiseS, wipeE]; exact h1
    | false => simp [hs] at h0; simp [seqS, setS, retS, retN, exprS, nilS, ifS, parS, asgS, bindT, bindTs, bindF, callC, varF, retF, consF, nilF, iteV, truF, truD, notF, andF, orF, andV, orV, notV, chF, chT, bodyEnds, startE, optF, idxF, slcF, intF, noF, newL, tyD, isiT, isiB, lenB, absB, intB, gcdB, tupB, lstB, ltG, leG, gtG, geG, isG, isnG, o2I, isO, getS, addF, subF, mulF, eqG_ii, neG_ii, neG_bb, fdivG, modG, powG, raiseS, wipeE]; exact h0
theorem wp2 (hv : okD l (.tup (.str w :: as)) = true) (hl : l ≤ 1000) (hd : depD (.tup (.str w :: as)) ≤ k + 1) (hk : k ≤ 59) (h1 : inL oneL w = true → E.rt (.bl (decide (as.length = 1) && validM k f (as.getD 0 .non))) S) (h0 : inL oneL w = false → E.nx (ltE2 (.tup (.str w :: as)) f) S) :
    fs_law_is_tree_2 (cLTree k) E (ltE2 (.tup (.str w :: as)) f) S := by
  have hw := str_dat hv
  have hs := sizeLine_eq
  have hx := okD_tup.mp hv
  have z1 : ∀ k : Nat, k ≤ 100 → k ≤ sizeLine := fun k h => by omega
  simp [fs_law_is_tree_2, seqS, setS, retS, retN, exprS, nilS, ifS, parS, asgS, bindT, bindTs, bindF, callC, varF, retF, consF, nilF, iteV, truF, truD, notF, andF, orF, andV, orV, notV, chF, chT, bodyEnds, startE, optF, idxF, slcF, intF, noF, newL, tyD, isiT, isiB, lenB, absB, intB, gcdB, tupB, lstB, ltG, leG, gtG, geG, isG, isnG, o2I, isO, getS, addF, subF, mulF, eqG_ii, neG_ii, neG_bb, fdivG, modG, powG, raiseS, wipeE, i0, z1]
  refine cast (in_one' hw).symm ?_
  cases ho : inL oneL w with
  | true =>
    have h1 := h1 ho
    simp [seqS, setS, retS, retN, exprS, nilS, ifS, parS, asgS, bindT, bindTs, bindF, callC, varF, retF, consF, nilF, iteV, truF, truD, notF, andF, orF, andV, orV, notV, chF, chT, bodyEnds, startE, optF, idxF, slcF, intF, noF, newL, tyD, isiT, isiB, lenB, absB, intB, gcdB, tupB, lstB, ltG, leG, gtG, geG, isG, isnG, o2I, isO, getS, addF, subF, mulF, eqG_ii, neG_ii, neG_bb, fdivG, modG, powG, raiseS, wipeE]
    by_cases hlen : as.length = 1
    · obtain ⟨a, rfl⟩ := len1 hlen
      simp at h1
      simp [i1, seqS, setS, retS, retN, exprS, nilS, ifS, parS, asgS, bindT, bindTs, bindF, callC, varF, retF, consF, nilF, iteV, truF, truD, notF, andF, orF, andV, orV, notV, chF, chT, bodyEnds, startE, optF, idxF, slcF, intF, noF, newL, tyD, isiT, isiB, lenB, absB, intB, gcdB, tupB, lstB, ltG, leG, gtG, geG, isG, isnG, o2I, isO, getS, addF, subF, mulF, eqG_ii, neG_ii, neG_bb, fdivG, modG, powG, raiseS, wipeE]
      exact ⟨a, f, l, rfl, hx.2 a (by simp), hl, by have := depD_mem hd (d := a) (by simp); omega, by omega, h1⟩
    · have e : ¬ ((as.length : Int) + 1 = 2) := by omega
      simp [hlen] at h1
      simp [e, seqS, setS, retS, retN, exprS, nilS, ifS, parS, asgS, bindT, bindTs, bindF, callC, varF, retF, consF, nilF, iteV, truF, truD, notF, andF, orF, andV, orV, notV, chF, chT, bodyEnds, startE, optF, idxF, slcF, intF, noF, newL, tyD, isiT, isiB, lenB, absB, intB, gcdB, tupB, lstB, ltG, leG, gtG, geG, isG, isnG, o2I, isO, getS, addF, subF, mulF, eqG_ii, neG_ii, neG_bb, fdivG, modG, powG, raiseS, wipeE]
      exact h1
  | false =>
    simp [seqS, setS, retS, retN, exprS, nilS, ifS, parS, asgS, bindT, bindTs, bindF, callC, varF, retF, consF, nilF, iteV, truF, truD, notF, andF, orF, andV, orV, notV, chF, chT, bodyEnds, startE, optF, idxF, slcF, intF, noF, newL, tyD, isiT, isiB, lenB, absB, intB, gcdB, tupB, lstB, ltG, leG, gtG, geG, isG, isnG, o2I, isO, getS, addF, subF, mulF, eqG_ii, neG_ii, neG_bb, fdivG, modG, powG, raiseS, wipeE]
    exact h0 ho
theorem wp3 (hv : okD l (.tup (.str w :: as)) = true) (hl : l ≤ 1000) (hd : depD (.tup (.str w :: as)) ≤ k + 1) (hk : k ≤ 59) (h1 : inL twoL w = true → E.rt (.bl (decide (as.length = 2) && (validM k f (as.getD 0 .non) && validM k f (as.getD 1 .non)))) S) (h0 : inL twoL w = false → E.nx (ltE2 (.tup (.str w :: as)) f) S) :
    fs_law_is_tree_3 (cLTree k) E (ltE2 (.tup (.str w :: as)) f) S := by
  have hw := str_dat hv
  have hs := sizeLine_eq
  have hx := okD_tup.mp hv
  have z1 : ∀ k : Nat, k ≤ 100 → k ≤ sizeLine := fun k h => by omega
  simp [fs_law_is_tree_3, seqS, setS, retS, retN, exprS, nilS, ifS, parS, asgS, bindT, bindTs, bindF, callC, varF, retF, consF, nilF, iteV, truF, truD, notF, andF, orF, andV, orV, notV, chF, chT, bodyEnds, startE, optF, idxF, slcF, intF, noF, newL, tyD, isiT, isiB, lenB, absB, intB, gcdB, tupB, lstB, ltG, leG, gtG, geG, isG, isnG, o2I, isO, getS, addF, subF, mulF, eqG_ii, neG_ii, neG_bb, fdivG, modG, powG, raiseS, wipeE, i0, z1]
  refine cast (in_two' hw).symm ?_
  cases ho : inL twoL w with
  | true =>
    have h1 := h1 ho
    simp [seqS, setS, retS, retN, exprS, nilS, ifS, parS, asgS, bindT, bindTs, bindF, callC, varF, retF, consF, nilF, iteV, truF, truD, notF, andF, orF, andV, orV, notV, chF, chT, bodyEnds, startE, optF, idxF, slcF, intF, noF, newL, tyD, isiT, isiB, lenB, absB, intB, gcdB, tupB, lstB, ltG, leG, gtG, geG, isG, isnG, o2I, isO, getS, addF, subF, mulF, eqG_ii, neG_ii, neG_bb, fdivG, modG, powG, raiseS, wipeE]
    by_cases hlen : as.length = 2
    · obtain ⟨a, b, rfl⟩ := len2 hlen
      simp at h1
      simp [i1, seqS, setS, retS, retN, exprS, nilS, ifS, parS, asgS, bindT, bindTs, bindF, callC, varF, retF, consF, nilF, iteV, truF, truD, notF, andF, orF, andV, orV, notV, chF, chT, bodyEnds, startE, optF, idxF, slcF, intF, noF, newL, tyD, isiT, isiB, lenB, absB, intB, gcdB, tupB, lstB, ltG, leG, gtG, geG, isG, isnG, o2I, isO, getS, addF, subF, mulF, eqG_ii, neG_ii, neG_bb, fdivG, modG, powG, raiseS, wipeE]
      refine ⟨a, f, l, rfl, hx.2 a (by simp), hl, by have := depD_mem hd (d := a) (by simp); omega, by omega, ?_⟩
      cases ha : validM k f a with
      | true =>
        simp [ha] at h1
        simp [seqS, setS, retS, retN, exprS, nilS, ifS, parS, asgS, bindT, bindTs, bindF, callC, varF, retF, consF, nilF, iteV, truF, truD, notF, andF, orF, andV, orV, notV, chF, chT, bodyEnds, startE, optF, idxF, slcF, intF, noF, newL, tyD, isiT, isiB, lenB, absB, intB, gcdB, tupB, lstB, ltG, leG, gtG, geG, isG, isnG, o2I, isO, getS, addF, subF, mulF, eqG_ii, neG_ii, neG_bb, fdivG, modG, powG, raiseS, wipeE, i2]
        exact ⟨b, f, l, rfl, hx.2 b (by simp), hl, by have := depD_mem hd (d := b) (by simp); omega, by omega, h1⟩
      | false =>
        simp [ha] at h1
        simp [seqS, setS, retS, retN, exprS, nilS, ifS, parS, asgS, bindT, bindTs, bindF, callC, varF, retF, consF, nilF, iteV, truF, truD, notF, andF, orF, andV, orV, notV, chF, chT, bodyEnds, startE, optF, idxF, slcF, intF, noF, newL, tyD, isiT, isiB, lenB, absB, intB, gcdB, tupB, lstB, ltG, leG, gtG, geG, isG, isnG, o2I, isO, getS, addF, subF, mulF, eqG_ii, neG_ii, neG_bb, fdivG, modG, powG, raiseS, wipeE]
        exact h1
    · have e : ¬ ((as.length : Int) + 1 = 3) := by omega
      simp [hlen] at h1
      simp [e, seqS, setS, retS, retN, exprS, nilS, ifS, parS, asgS, bindT, bindTs, bindF, callC, varF, retF, consF, nilF, iteV, truF, truD, notF, andF, orF, andV, orV, notV, chF, chT, bodyEnds, startE, optF, idxF, slcF, intF, noF, newL, tyD, isiT, isiB, lenB, absB, intB, gcdB, tupB, lstB, ltG, leG, gtG, geG, isG, isnG, o2I, isO, getS, addF, subF, mulF, eqG_ii, neG_ii, neG_bb, fdivG, modG, powG, raiseS, wipeE]
      exact h1
  | false =>
    simp [seqS, setS, retS, retN, exprS, nilS, ifS, parS, asgS, bindT, bindTs, bindF, callC, varF, retF, consF, nilF, iteV, truF, truD, notF, andF, orF, andV, orV, notV, chF, chT, bodyEnds, startE, optF, idxF, slcF, intF, noF, newL, tyD, isiT, isiB, lenB, absB, intB, gcdB, tupB, lstB, ltG, leG, gtG, geG, isG, isnG, o2I, isO, getS, addF, subF, mulF, eqG_ii, neG_ii, neG_bb, fdivG, modG, powG, raiseS, wipeE]
    exact h0 ho
theorem wp4 (hv : okD l (.tup (.str w :: as)) = true) (hl : l ≤ 1000) (hd : depD (.tup (.str w :: as)) ≤ k + 1) (hk : k ≤ 59) (h1 : w = "power" → E.rt (.bl (decide (as.length = 2) && (validM k f (as.getD 0 .non) && wholeB (as.getD 1 .non) 0 12))) S) (h0 : w ≠ "power" → E.nx (ltE2 (.tup (.str w :: as)) f) S) :
    fs_law_is_tree_4 (cLTree k) cWhole E (ltE2 (.tup (.str w :: as)) f) S := by
  have hw := str_dat hv
  have hx := okD_tup.mp hv
  simp [fs_law_is_tree_4, seqS, setS, retS, retN, exprS, nilS, ifS, parS, asgS, bindT, bindTs, bindF, callC, varF, retF, consF, nilF, iteV, truF, truD, notF, andF, orF, andV, orV, notV, chF, chT, bodyEnds, startE, optF, idxF, slcF, intF, noF, newL, tyD, isiT, isiB, lenB, absB, intB, gcdB, tupB, lstB, ltG, leG, gtG, geG, isG, isnG, o2I, isO, getS, addF, subF, mulF, eqG_ii, neG_ii, neG_bb, fdivG, modG, powG, raiseS, wipeE, i0]
  refine cast (eq_pow hw).symm ?_
  by_cases ho : w = "power"
  · have h1 := h1 ho
    subst ho
    simp [seqS, setS, retS, retN, exprS, nilS, ifS, parS, asgS, bindT, bindTs, bindF, callC, varF, retF, consF, nilF, iteV, truF, truD, notF, andF, orF, andV, orV, notV, chF, chT, bodyEnds, startE, optF, idxF, slcF, intF, noF, newL, tyD, isiT, isiB, lenB, absB, intB, gcdB, tupB, lstB, ltG, leG, gtG, geG, isG, isnG, o2I, isO, getS, addF, subF, mulF, eqG_ii, neG_ii, neG_bb, fdivG, modG, powG, raiseS, wipeE]
    by_cases hlen : as.length = 2
    · obtain ⟨a, b, rfl⟩ := len2 hlen
      simp at h1
      simp [i1, seqS, setS, retS, retN, exprS, nilS, ifS, parS, asgS, bindT, bindTs, bindF, callC, varF, retF, consF, nilF, iteV, truF, truD, notF, andF, orF, andV, orV, notV, chF, chT, bodyEnds, startE, optF, idxF, slcF, intF, noF, newL, tyD, isiT, isiB, lenB, absB, intB, gcdB, tupB, lstB, ltG, leG, gtG, geG, isG, isnG, o2I, isO, getS, addF, subF, mulF, eqG_ii, neG_ii, neG_bb, fdivG, modG, powG, raiseS, wipeE]
      refine ⟨a, f, l, rfl, hx.2 a (by simp), hl, by have := depD_mem hd (d := a) (by simp); omega, by omega, ?_⟩
      cases ha : validM k f a with
      | true =>
        simp [ha] at h1
        simp [seqS, setS, retS, retN, exprS, nilS, ifS, parS, asgS, bindT, bindTs, bindF, callC, varF, retF, consF, nilF, iteV, truF, truD, notF, andF, orF, andV, orV, notV, chF, chT, bodyEnds, startE, optF, idxF, slcF, intF, noF, newL, tyD, isiT, isiB, lenB, absB, intB, gcdB, tupB, lstB, ltG, leG, gtG, geG, isG, isnG, o2I, isO, getS, addF, subF, mulF, eqG_ii, neG_ii, neG_bb, fdivG, modG, powG, raiseS, wipeE, i2]
        exact ⟨b, _, _, rfl, okD_dat (hx.2 b (by simp)), h1⟩
      | false =>
        simp [ha] at h1
        simp [seqS, setS, retS, retN, exprS, nilS, ifS, parS, asgS, bindT, bindTs, bindF, callC, varF, retF, consF, nilF, iteV, truF, truD, notF, andF, orF, andV, orV, notV, chF, chT, bodyEnds, startE, optF, idxF, slcF, intF, noF, newL, tyD, isiT, isiB, lenB, absB, intB, gcdB, tupB, lstB, ltG, leG, gtG, geG, isG, isnG, o2I, isO, getS, addF, subF, mulF, eqG_ii, neG_ii, neG_bb, fdivG, modG, powG, raiseS, wipeE]
        exact h1
    · have e : ¬ ((as.length : Int) + 1 = 3) := by omega
      simp [hlen] at h1
      simp [e, seqS, setS, retS, retN, exprS, nilS, ifS, parS, asgS, bindT, bindTs, bindF, callC, varF, retF, consF, nilF, iteV, truF, truD, notF, andF, orF, andV, orV, notV, chF, chT, bodyEnds, startE, optF, idxF, slcF, intF, noF, newL, tyD, isiT, isiB, lenB, absB, intB, gcdB, tupB, lstB, ltG, leG, gtG, geG, isG, isnG, o2I, isO, getS, addF, subF, mulF, eqG_ii, neG_ii, neG_bb, fdivG, modG, powG, raiseS, wipeE]
      exact h1
  · have e : (w == ("power" : Str)) = false := by simpa using ho
    simp [e, seqS, setS, retS, retN, exprS, nilS, ifS, parS, asgS, bindT, bindTs, bindF, callC, varF, retF, consF, nilF, iteV, truF, truD, notF, andF, orF, andV, orV, notV, chF, chT, bodyEnds, startE, optF, idxF, slcF, intF, noF, newL, tyD, isiT, isiB, lenB, absB, intB, gcdB, tupB, lstB, ltG, leG, gtG, geG, isG, isnG, o2I, isO, getS, addF, subF, mulF, eqG_ii, neG_ii, neG_bb, fdivG, modG, powG, raiseS, wipeE]
    exact h0 ho
theorem wp5 (hv : okD l (.tup (.str w :: as)) = true) (hl : l ≤ 1000) (hd : depD (.tup (.str w :: as)) ≤ k + 1) (hk : k ≤ 59) (h1 : w = "number" → E.rt (.bl (decide (as.length = 1) && isFrac (as.getD 0 .non))) S) (h0 : w ≠ "number" → E.nx (ltE2 (.tup (.str w :: as)) f) S) :
    fs_law_is_tree_5 cLawFrac E (ltE2 (.tup (.str w :: as)) f) S := by
  have hw := str_dat hv
  have hs := sizeLine_eq
  have hx := okD_tup.mp hv
  simp [fs_law_is_tree_5, seqS, setS, retS, retN, exprS, nilS, ifS, parS, asgS, bindT, bindTs, bindF, callC, varF, retF, consF, nilF, iteV, truF, truD, notF, andF, orF, andV, orV, notV, chF, chT, bodyEnds, startE, optF, idxF, slcF, intF, noF, newL, tyD, isiT, isiB, lenB, absB, intB, gcdB, tupB, lstB, ltG, leG, gtG, geG, isG, isnG, o2I, isO, getS, addF, subF, mulF, eqG_ii, neG_ii, neG_bb, fdivG, modG, powG, raiseS, wipeE, i0]
  refine cast (eq_num hw).symm ?_
  by_cases ho : w = "number"
  · have h1 := h1 ho
    subst ho
    simp [seqS, setS, retS, retN, exprS, nilS, ifS, parS, asgS, bindT, bindTs, bindF, callC, varF, retF, consF, nilF, iteV, truF, truD, notF, andF, orF, andV, orV, notV, chF, chT, bodyEnds, startE, optF, idxF, slcF, intF, noF, newL, tyD, isiT, isiB, lenB, absB, intB, gcdB, tupB, lstB, ltG, leG, gtG, geG, isG, isnG, o2I, isO, getS, addF, subF, mulF, eqG_ii, neG_ii, neG_bb, fdivG, modG, powG, raiseS, wipeE]
    by_cases hlen : as.length = 1
    · obtain ⟨a, rfl⟩ := len1 hlen
      simp at h1
      simp [i1, seqS, setS, retS, retN, exprS, nilS, ifS, parS, asgS, bindT, bindTs, bindF, callC, varF, retF, consF, nilF, iteV, truF, truD, notF, andF, orF, andV, orV, notV, chF, chT, bodyEnds, startE, optF, idxF, slcF, intF, noF, newL, tyD, isiT, isiB, lenB, absB, intB, gcdB, tupB, lstB, ltG, leG, gtG, geG, isG, isnG, o2I, isO, getS, addF, subF, mulF, eqG_ii, neG_ii, neG_bb, fdivG, modG, powG, raiseS, wipeE]
      exact ⟨a, l, rfl, hx.2 a (by simp), by omega, by have := depD_mem hd (d := a) (by simp); omega, h1⟩
    · have e : ¬ ((as.length : Int) + 1 = 2) := by omega
      simp [hlen] at h1
      simp [e, seqS, setS, retS, retN, exprS, nilS, ifS, parS, asgS, bindT, bindTs, bindF, callC, varF, retF, consF, nilF, iteV, truF, truD, notF, andF, orF, andV, orV, notV, chF, chT, bodyEnds, startE, optF, idxF, slcF, intF, noF, newL, tyD, isiT, isiB, lenB, absB, intB, gcdB, tupB, lstB, ltG, leG, gtG, geG, isG, isnG, o2I, isO, getS, addF, subF, mulF, eqG_ii, neG_ii, neG_bb, fdivG, modG, powG, raiseS, wipeE]
      exact h1
  · have e : (w == ("number" : Str)) = false := by simpa using ho
    simp [e, seqS, setS, retS, retN, exprS, nilS, ifS, parS, asgS, bindT, bindTs, bindF, callC, varF, retF, consF, nilF, iteV, truF, truD, notF, andF, orF, andV, orV, notV, chF, chT, bodyEnds, startE, optF, idxF, slcF, intF, noF, newL, tyD, isiT, isiB, lenB, absB, intB, gcdB, tupB, lstB, ltG, leG, gtG, geG, isG, isnG, o2I, isO, getS, addF, subF, mulF, eqG_ii, neG_ii, neG_bb, fdivG, modG, powG, raiseS, wipeE]
    exact h0 ho
theorem wp6 (hv : okD l (.tup (.str w :: as)) = true) (hl : l ≤ 1000) (hd : depD (.tup (.str w :: as)) ≤ k + 1) (hk : k ≤ 59) (h1 : w = "root" → E.rt (.bl (decide (as.length = 2) && (lineB (as.getD 0 .non) && (decide (1 < lenD (as.getD 0 .non)) && wholeB (as.getD 1 .non) 0 7)))) S) (h0 : w ≠ "root" → E.nx (ltE2 (.tup (.str w :: as)) f) S) :
    fs_law_is_tree_6 cLLine cWhole E (ltE2 (.tup (.str w :: as)) f) S := by
  have hw := str_dat hv
  have hs := sizeLine_eq
  have hx := okD_tup.mp hv
  simp [fs_law_is_tree_6, seqS, setS, retS, retN, exprS, nilS, ifS, parS, asgS, bindT, bindTs, bindF, callC, varF, retF, consF, nilF, iteV, truF, truD, notF, andF, orF, andV, orV, notV, chF, chT, bodyEnds, startE, optF, idxF, slcF, intF, noF, newL, tyD, isiT, isiB, lenB, absB, intB, gcdB, tupB, lstB, ltG, leG, gtG, geG, isG, isnG, o2I, isO, getS, addF, subF, mulF, eqG_ii, neG_ii, neG_bb, fdivG, modG, powG, raiseS, wipeE, i0]
  refine cast (eq_root hw).symm ?_
  by_cases ho : w = "root"
  · have h1 := h1 ho
    subst ho
    simp [seqS, setS, retS, retN, exprS, nilS, ifS, parS, asgS, bindT, bindTs, bindF, callC, varF, retF, consF, nilF, iteV, truF, truD, notF, andF, orF, andV, orV, notV, chF, chT, bodyEnds, startE, optF, idxF, slcF, intF, noF, newL, tyD, isiT, isiB, lenB, absB, intB, gcdB, tupB, lstB, ltG, leG, gtG, geG, isG, isnG, o2I, isO, getS, addF, subF, mulF, eqG_ii, neG_ii, neG_bb, fdivG, modG, powG, raiseS, wipeE]
    by_cases hlen : as.length = 2
    · obtain ⟨a, b, rfl⟩ := len2 hlen
      simp at h1
      simp [i1, seqS, setS, retS, retN, exprS, nilS, ifS, parS, asgS, bindT, bindTs, bindF, callC, varF, retF, consF, nilF, iteV, truF, truD, notF, andF, orF, andV, orV, notV, chF, chT, bodyEnds, startE, optF, idxF, slcF, intF, noF, newL, tyD, isiT, isiB, lenB, absB, intB, gcdB, tupB, lstB, ltG, leG, gtG, geG, isG, isnG, o2I, isO, getS, addF, subF, mulF, eqG_ii, neG_ii, neG_bb, fdivG, modG, powG, raiseS, wipeE]
      refine ⟨a, l, rfl, hx.2 a (by simp), by omega, by have := depD_mem hd (d := a) (by simp); omega, ?_⟩
      cases hla : lineB a with
      | true =>
        obtain ⟨xs, rfl⟩ := line_form hla
        simp [hla, lenD] at h1
        by_cases hlen : 1 < xs.length
        · have e : (1 : Int) < xs.length := by omega
          simp [hlen] at h1
          simp [seqS, setS, retS, retN, exprS, nilS, ifS, parS, asgS, bindT, bindTs, bindF, callC, varF, retF, consF, nilF, iteV, truF, truD, notF, andF, orF, andV, orV, notV, chF, chT, bodyEnds, startE, optF, idxF, slcF, intF, noF, newL, tyD, isiT, isiB, lenB, absB, intB, gcdB, tupB, lstB, ltG, leG, gtG, geG, isG, isnG, o2I, isO, getS, addF, subF, mulF, eqG_ii, neG_ii, neG_bb, fdivG, modG, powG, raiseS, wipeE, i1, i2, e]
          exact ⟨b, _, _, rfl, okD_dat (hx.2 b (by simp)), h1⟩
        · have e : ¬ (1 : Int) < xs.length := by omega
          simp [hlen] at h1
          simp [seqS, setS, retS, retN, exprS, nilS, ifS, parS, asgS, bindT, bindTs, bindF, callC, varF, retF, consF, nilF, iteV, truF, truD, notF, andF, orF, andV, orV, notV, chF, chT, bodyEnds, startE, optF, idxF, slcF, intF, noF, newL, tyD, isiT, isiB, lenB, absB, intB, gcdB, tupB, lstB, ltG, leG, gtG, geG, isG, isnG, o2I, isO, getS, addF, subF, mulF, eqG_ii, neG_ii, neG_bb, fdivG, modG, powG, raiseS, wipeE, i1, e]
          exact h1
      | false =>
        simp [hla] at h1
        simp [seqS, setS, retS, retN, exprS, nilS, ifS, parS, asgS, bindT, bindTs, bindF, callC, varF, retF, consF, nilF, iteV, truF, truD, notF, andF, orF, andV, orV, notV, chF, chT, bodyEnds, startE, optF, idxF, slcF, intF, noF, newL, tyD, isiT, isiB, lenB, absB, intB, gcdB, tupB, lstB, ltG, leG, gtG, geG, isG, isnG, o2I, isO, getS, addF, subF, mulF, eqG_ii, neG_ii, neG_bb, fdivG, modG, powG, raiseS, wipeE]
        exact h1
    · have e : ¬ ((as.length : Int) + 1 = 3) := by omega
      simp [hlen] at h1
      simp [e, seqS, setS, retS, retN, exprS, nilS, ifS, parS, asgS, bindT, bindTs, bindF, callC, varF, retF, consF, nilF, iteV, truF, truD, notF, andF, orF, andV, orV, notV, chF, chT, bodyEnds, startE, optF, idxF, slcF, intF, noF, newL, tyD, isiT, isiB, lenB, absB, intB, gcdB, tupB, lstB, ltG, leG, gtG, geG, isG, isnG, o2I, isO, getS, addF, subF, mulF, eqG_ii, neG_ii, neG_bb, fdivG, modG, powG, raiseS, wipeE]
      exact h1
  · have e : (w == ("root" : Str)) = false := by simpa using ho
    simp [e, seqS, setS, retS, retN, exprS, nilS, ifS, parS, asgS, bindT, bindTs, bindF, callC, varF, retF, consF, nilF, iteV, truF, truD, notF, andF, orF, andV, orV, notV, chF, chT, bodyEnds, startE, optF, idxF, slcF, intF, noF, newL, tyD, isiT, isiB, lenB, absB, intB, gcdB, tupB, lstB, ltG, leG, gtG, geG, isG, isnG, o2I, isO, getS, addF, subF, mulF, eqG_ii, neG_ii, neG_bb, fdivG, modG, powG, raiseS, wipeE]
    exact h0 ho
end
end LawX

set_option Elab.async false
set_option linter.all false
set_option maxRecDepth 100000
set_option maxHeartbeats 0
set_option exponentiation.threshold 5000
namespace LawX
open PySem PySem.Spec PyProof.Rows L2 Dx
theorem end_bad {p : D} (h : isFrac p = true) : endB p = !badB p := by
  obtain ⟨a, b, rfl, h0, _⟩ := frac_form h
  simp only [endB, h, badB, Bool.true_and]
  rw [Bool.eq_iff_iff]
  simp
theorem wp7 {E : DEnds} {S : Store} {w : Str} {as : List D} {k l : Nat} {f : Bool} (hv : okD l (.tup (.str w :: as)) = true) (hl : l ≤ 1000) (hd : depD (.tup (.str w :: as)) ≤ k + 1) (hk : k ≤ 59)
    (h1 : w = "area" → E.rt (.bl (decide (as.length = 3) && (validM k true (as.getD 0 .non) && (endB (as.getD 1 .non) && endB (as.getD 2 .non))))) S) (h0 : w ≠ "area" → E.nx (ltE2 (.tup (.str w :: as)) f) S) :
    fs_law_is_tree_7 (cLTree k) cLawFrac E (ltE2 (.tup (.str w :: as)) f) S := by
  have hw := str_dat hv
  have hs := sizeLine_eq
  have hx := okD_tup.mp hv
  have z1 : ∀ k : Nat, k ≤ 100 → k ≤ sizeLine := fun k h => by omega
  simp [fs_law_is_tree_7, seqS, setS, retS, retN, exprS, nilS, ifS, parS, asgS, bindT, bindTs, bindF, callC, varF, retF, consF, nilF, iteV, truF, truD, notF, andF, orF, andV, orV, notV, chF, chT, bodyEnds, startE, optF, idxF, slcF, intF, noF, newL, tyD, isiT, isiB, lenB, absB, intB, gcdB, tupB, lstB, ltG, leG, gtG, geG, isG, isnG, o2I, isO, getS, addF, subF, mulF, eqG_ii, neG_ii, neG_bb, fdivG, modG, powG, raiseS, wipeE, i0]
  refine cast (eq_area hw).symm ?_
  by_cases ho : w = "area"
  · have h1 := h1 ho
    subst ho
    simp [seqS, setS, retS, retN, exprS, nilS, ifS, parS, asgS, bindT, bindTs, bindF, callC, varF, retF, consF, nilF, iteV, truF, truD, notF, andF, orF, andV, orV, notV, chF, chT, bodyEnds, startE, optF, idxF, slcF, intF, noF, newL, tyD, isiT, isiB, lenB, absB, intB, gcdB, tupB, lstB, ltG, leG, gtG, geG, isG, isnG, o2I, isO, getS, addF, subF, mulF, eqG_ii, neG_ii, neG_bb, fdivG, modG, powG, raiseS, wipeE]
    by_cases hlen : as.length = 3
    · obtain ⟨a, p, q, rfl⟩ := len3 hlen
      simp at h1
      have da := depD_mem hd (d := a) (by simp)
      have dp := depD_mem hd (d := p) (by simp)
      have dq := depD_mem hd (d := q) (by simp)
      simp [i1, seqS, setS, retS, retN, exprS, nilS, ifS, parS, asgS, bindT, bindTs, bindF, callC, varF, retF, consF, nilF, iteV, truF, truD, notF, andF, orF, andV, orV, notV, chF, chT, bodyEnds, startE, optF, idxF, slcF, intF, noF, newL, tyD, isiT, isiB, lenB, absB, intB, gcdB, tupB, lstB, ltG, leG, gtG, geG, isG, isnG, o2I, isO, getS, addF, subF, mulF, eqG_ii, neG_ii, neG_bb, fdivG, modG, powG, raiseS, wipeE]
      refine ⟨a, true, l, rfl, hx.2 a (by simp), hl, by omega, by omega, ?_⟩
      cases hva : validM k true a with
      | false =>
        simp [hva] at h1
        simp [seqS, setS, retS, retN, exprS, nilS, ifS, parS, asgS, bindT, bindTs, bindF, callC, varF, retF, consF, nilF, iteV, truF, truD, notF, andF, orF, andV, orV, notV, chF, chT, bodyEnds, startE, optF, idxF, slcF, intF, noF, newL, tyD, isiT, isiB, lenB, absB, intB, gcdB, tupB, lstB, ltG, leG, gtG, geG, isG, isnG, o2I, isO, getS, addF, subF, mulF, eqG_ii, neG_ii, neG_bb, fdivG, modG, powG, raiseS, wipeE]
        exact h1
      | true =>
        simp [hva] at h1
        simp [seqS, setS, retS, retN, exprS, nilS, ifS, parS, asgS, bindT, bindTs, bindF, callC, varF, retF, consF, nilF, iteV, truF, truD, notF, andF, orF, andV, orV, notV, chF, chT, bodyEnds, startE, optF, idxF, slcF, intF, noF, newL, tyD, isiT, isiB, lenB, absB, intB, gcdB, tupB, lstB, ltG, leG, gtG, geG, isG, isnG, o2I, isO, getS, addF, subF, mulF, eqG_ii, neG_ii, neG_bb, fdivG, modG, powG, raiseS, wipeE, i2]
        refine ⟨p, l, rfl, hx.2 p (by simp), by omega, by omega, ?_⟩
        cases hp : isFrac p with
        | false =>
          have e : endB p = false := by
            cases z : endB p with
            | false => rfl
            | true => rw [end_frac z] at hp; cases hp
          simp [e] at h1
          simp [seqS, setS, retS, retN, exprS, nilS, ifS, parS, asgS, bindT, bindTs, bindF, callC, varF, retF, consF, nilF, iteV, truF, truD, notF, andF, orF, andV, orV, notV, chF, chT, bodyEnds, startE, optF, idxF, slcF, intF, noF, newL, tyD, isiT, isiB, lenB, absB, intB, gcdB, tupB, lstB, ltG, leG, gtG, geG, isG, isnG, o2I, isO, getS, addF, subF, mulF, eqG_ii, neG_ii, neG_bb, fdivG, modG, powG, raiseS, wipeE]
          exact h1
        | true =>
          simp [seqS, setS, retS, retN, exprS, nilS, ifS, parS, asgS, bindT, bindTs, bindF, callC, varF, retF, consF, nilF, iteV, truF, truD, notF, andF, orF, andV, orV, notV, chF, chT, bodyEnds, startE, optF, idxF, slcF, intF, noF, newL, tyD, isiT, isiB, lenB, absB, intB, gcdB, tupB, lstB, ltG, leG, gtG, geG, isG, isnG, o2I, isO, getS, addF, subF, mulF, eqG_ii, neG_ii, neG_bb, fdivG, modG, powG, raiseS, wipeE, i3]
          refine ⟨q, l, rfl, hx.2 q (by simp), by omega, by omega, ?_⟩
          cases hq : isFrac q with
          | false =>
            have e : endB q = false := by
              cases z : endB q with
              | false => rfl
              | true => rw [end_frac z] at hq; cases hq
            simp [e] at h1
            simp [seqS, setS, retS, retN, exprS, nilS, ifS, parS, asgS, bindT, bindTs, bindF, callC, varF, retF, consF, nilF, iteV, truF, truD, notF, andF, orF, andV, orV, notV, chF, chT, bodyEnds, startE, optF, idxF, slcF, intF, noF, newL, tyD, isiT, isiB, lenB, absB, intB, gcdB, tupB, lstB, ltG, leG, gtG, geG, isG, isnG, o2I, isO, getS, addF, subF, mulF, eqG_ii, neG_ii, neG_bb, fdivG, modG, powG, raiseS, wipeE]
            exact h1
          | true =>
            simp [seqS, setS, retS, retN, exprS, nilS, ifS, parS, asgS, bindT, bindTs, bindF, callC, varF, retF, consF, nilF, iteV, truF, truD, notF, andF, orF, andV, orV, notV, chF, chT, bodyEnds, startE, optF, idxF, slcF, intF, noF, newL, tyD, isiT, isiB, lenB, absB, intB, gcdB, tupB, lstB, ltG, leG, gtG, geG, isG, isnG, o2I, isO, getS, addF, subF, mulF, eqG_ii, neG_ii, neG_bb, fdivG, modG, powG, raiseS, wipeE]
            have ec : Dx.cutD [D.str "area", a, p, q] (some 2) none = [p, q] := by rw [cut_from (by decide)]; rfl
            have bad : ∀ d ∈ [p, q], ∃ x y, d = .tup [.int x, .int y] := fun d hd => by
              simp at hd
              rcases hd with rfl | rfl
              · obtain ⟨x, y, e, _⟩ := frac_form hp; exact ⟨x, y, e⟩
              · obtain ⟨x, y, e, _⟩ := frac_form hq; exact ⟨x, y, e⟩
            refine compF_val [p, q] (fun _ => True) badB id (fun Q h => ?_) trivial (by simp [hs]) (fun d hd => ⟨_, rfl, fun Q h => ?_, fun _ Q h => ?_⟩) ?_
            · simp [itsF, seqS, setS, retS, retN, exprS, nilS, ifS, parS, asgS, bindT, bindTs, bindF, callC, varF, retF, consF, nilF, iteV, truF, truD, notF, andF, orF, andV, orV, notV, chF, chT, bodyEnds, startE, optF, idxF, slcF, intF, noF, newL, tyD, isiT, isiB, lenB, absB, intB, gcdB, tupB, lstB, ltG, leG, gtG, geG, isG, isnG, o2I, isO, getS, addF, subF, mulF, eqG_ii, neG_ii, neG_bb, fdivG, modG, powG, raiseS, wipeE, ec]
              exact h
            · obtain ⟨x, y, rfl⟩ := bad d hd
              have c8 : cMul 8 y = true := by unfold cMul; simp
              have e : decide (8 * y < if x < 0 then -x else x) = decide (8 * y < (x.natAbs : Int)) := by
                rw [Bool.eq_iff_iff]
                simp
                split <;> omega
              simp [seqS, setS, retS, retN, exprS, nilS, ifS, parS, asgS, bindT, bindTs, bindF, callC, varF, retF, consF, nilF, iteV, truF, truD, notF, andF, orF, andV, orV, notV, chF, chT, bodyEnds, startE, optF, idxF, slcF, intF, noF, newL, tyD, isiT, isiB, lenB, absB, intB, gcdB, tupB, lstB, ltG, leG, gtG, geG, isG, isnG, o2I, isO, getS, addF, subF, mulF, eqG_ii, neG_ii, neG_bb, fdivG, modG, powG, raiseS, wipeE, L2.atI, L2.ixN, c8, e]
              exact h
            · simp [seqS, setS, retS, retN, exprS, nilS, ifS, parS, asgS, bindT, bindTs, bindF, callC, varF, retF, consF, nilF, iteV, truF, truD, notF, andF, orF, andV, orV, notV, chF, chT, bodyEnds, startE, optF, idxF, slcF, intF, noF, newL, tyD, isiT, isiB, lenB, absB, intB, gcdB, tupB, lstB, ltG, leG, gtG, geG, isG, isnG, o2I, isO, getS, addF, subF, mulF, eqG_ii, neG_ii, neG_bb, fdivG, modG, powG, raiseS, wipeE]; exact h
            · have hdd : ∀ d ∈ [p, q], depD d ≤ 60 := fun d hd => by
                simp at hd
                rcases hd with rfl | rfl <;> omega
              obtain ⟨f1, f2⟩ := filt_dat (p := badB) (xs := [p, q]) (l := l) (fun d hd => hx.2 d (by simp at hd ⊢; rcases hd with rfl | rfl <;> simp)) hdd
              simp only [List.map_id]
              refine eqG_of f1 rfl (by omega) (by simp [depD, depDs]) ?_
              rw [nil_eq]
              rw [end_bad hp, end_bad hq] at h1
              cases e1 : badB p <;> cases e2 : badB q <;> simp [e1, e2] at h1 ⊢ <;> exact h1
    · have e : ¬ ((as.length : Int) + 1 = 4) := by omega
      simp [hlen] at h1
      simp [e, seqS, setS, retS, retN, exprS, nilS, ifS, parS, asgS, bindT, bindTs, bindF, callC, varF, retF, consF, nilF, iteV, truF, truD, notF, andF, orF, andV, orV, notV, chF, chT, bodyEnds, startE, optF, idxF, slcF, intF, noF, newL, tyD, isiT, isiB, lenB, absB, intB, gcdB, tupB, lstB, ltG, leG, gtG, geG, isG, isnG, o2I, isO, getS, addF, subF, mulF, eqG_ii, neG_ii, neG_bb, fdivG, modG, powG, raiseS, wipeE]
      exact h1
  · have e : (w == ("area" : Str)) = false := by simpa using ho
    simp [e, seqS, setS, retS, retN, exprS, nilS, ifS, parS, asgS, bindT, bindTs, bindF, callC, varF, retF, consF, nilF, iteV, truF, truD, notF, andF, orF, andV, orV, notV, chF, chT, bodyEnds, startE, optF, idxF, slcF, intF, noF, newL, tyD, isiT, isiB, lenB, absB, intB, gcdB, tupB, lstB, ltG, leG, gtG, geG, isG, isnG, o2I, isO, getS, addF, subF, mulF, eqG_ii, neG_ii, neG_bb, fdivG, modG, powG, raiseS, wipeE]
    exact h0 ho
/-- the law's own reading of a node -/
theorem valid_law {k : Nat} {f : Bool} {w : Str} {as : List D} : validM (k + 1) f (.tup (.str w :: as)) =
    if (f && inL nonL w) = true then false
    else if inL oneL w = true then decide (as.length = 1) && validM k f (as.getD 0 .non)
    else if inL twoL w = true then decide (as.length = 2) && (validM k f (as.getD 0 .non) && validM k f (as.getD 1 .non))
    else if w = "power" then decide (as.length = 2) && (validM k f (as.getD 0 .non) && wholeB (as.getD 1 .non) 0 12)
    else if w = "number" then decide (as.length = 1) && isFrac (as.getD 0 .non)
    else if w = "root" then decide (as.length = 2) && (lineB (as.getD 0 .non) && (decide (1 < lenD (as.getD 0 .non)) && wholeB (as.getD 1 .non) 0 7))
    else if w = "area" then decide (as.length = 3) && (validM k true (as.getD 0 .non) && (endB (as.getD 1 .non) && endB (as.getD 2 .non)))
    else decide (w = "pi") && as.isEmpty || (decide (w = "unknown") && as.isEmpty && f) := by
  have ev : validM (k + 1) f (.tup (.str w :: as)) = (!(f && !inL smoL w) && nodeV (validM k) w as f) := rfl
  rw [ev]
  by_cases c1 : inL oneL w = true
  · obtain ⟨n1, n2, n3, n4⟩ := one_not c1
    have e : inL nonL w = !inL smoL w := by rcases one_words c1 with rfl | rfl | rfl | rfl | rfl | rfl | rfl | rfl <;> decide +kernel
    rw [e, if_pos c1]
    cases hf : (f && !inL smoL w) with
    | true => rfl
    | false =>
      rw [if_neg Bool.false_ne_true]
      unfold nodeV
      by_cases hl : as.length = 1
      · rw [if_pos ⟨c1, hl⟩, decide_eq_true hl]; rfl
      · rw [if_neg (fun z => hl z.2), if_neg (fun z => n2 z.1), if_neg (fun z => by rw [n1] at z; cases z.1), if_neg (fun z => n3 z.1), n4, decide_eq_false hl]; rfl
  · by_cases c2 : inL twoL w = true
    · obtain ⟨n1, n2, n3, n4⟩ := two_not c2
      have e : inL nonL w = !inL smoL w := by rcases two_words c2 with rfl | rfl | rfl | rfl | rfl | rfl <;> decide +kernel
      rw [e, if_neg c1, if_pos c2]
      cases hf : (f && !inL smoL w) with
      | true => rfl
      | false =>
        rw [if_neg Bool.false_ne_true]
        unfold nodeV
        by_cases hl : as.length = 2
        · rw [if_neg (fun z => c1 z.1), if_neg (fun z => n2 z.1), if_pos ⟨c2, hl⟩, decide_eq_true hl]; rfl
        · rw [if_neg (fun z => c1 z.1), if_neg (fun z => n2 z.1), if_neg (fun z => hl z.2), if_neg (fun z => n3 z.1), n4, decide_eq_false hl]; rfl
    · by_cases c3 : w = "power"
      · subst c3
        have e : inL nonL "power" = false := by decide +kernel
        have e2 : inL smoL "power" = true := by decide +kernel
        rw [e, e2, if_neg (by simp), if_neg c1, if_neg c2, if_pos rfl]
        unfold nodeV
        by_cases hl : as.length = 2
        · rw [if_neg (fun z => c1 z.1), if_pos ⟨rfl, hl⟩, decide_eq_true hl]; simp [Bool.and_comm]
        · rw [if_neg (fun z => c1 z.1), if_neg (fun z => hl z.2), if_neg (fun z => c2 z.1), if_neg (fun z => by cases z.1), pow_not.2.2, decide_eq_false hl]; simp
      · by_cases c4 : w = "number"
        · subst c4
          have e : inL nonL "number" = false := by decide +kernel
          have e2 : inL smoL "number" = true := by decide +kernel
          rw [e, e2, if_neg (by simp), if_neg c1, if_neg c2, if_neg c3, if_pos rfl]
          unfold nodeV
          rw [if_neg (fun z => c1 z.1), if_neg (fun z => c3 z.1), if_neg (fun z => c2 z.1), if_neg (fun z => by cases z.1)]
          unfold leafB
          rw [if_pos rfl]
          match as with
          | [] => simp
          | [a] => simp
          | a :: b :: r => simp
        · by_cases c5 : w = "root"
          · subst c5
            have e : inL nonL "root" = true := by decide +kernel
            have e2 : inL smoL "root" = false := by decide +kernel
            rw [e, e2, if_neg c1, if_neg c2, if_neg c3, if_neg c4, if_pos rfl]
            cases f with
            | true => rfl
            | false =>
              rw [if_neg (by simp)]
              unfold nodeV
              rw [if_neg (fun z => c1 z.1), if_neg (fun z => c3 z.1), if_neg (fun z => c2 z.1), if_neg (fun z => by cases z.1)]
              unfold leafB
              rw [if_neg c4, if_neg (by decide +kernel), if_neg (by decide +kernel), if_pos rfl]
              match as with
              | [] => simp
              | [a] => simp
              | [a, b] => simp
              | a :: b :: c :: r => simp
          · by_cases c6 : w = "area"
            · subst c6
              have e : inL nonL "area" = true := by decide +kernel
              have e2 : inL smoL "area" = false := by decide +kernel
              rw [e, e2, if_neg c1, if_neg c2, if_neg c3, if_neg c4, if_neg c5, if_pos rfl]
              cases f with
              | true => rfl
              | false =>
                rw [if_neg (by simp)]
                unfold nodeV
                by_cases hl : as.length = 3
                · rw [if_neg (fun z => c1 z.1), if_neg (fun z => c3 z.1), if_neg (fun z => c2 z.1), if_pos ⟨rfl, hl⟩, decide_eq_true hl]; simp [Bool.and_comm]
                · rw [if_neg (fun z => c1 z.1), if_neg (fun z => c3 z.1), if_neg (fun z => c2 z.1), if_neg (fun z => hl z.2), area_not.2.2, decide_eq_false hl]; simp
            · rw [if_neg c1, if_neg c2, if_neg c3, if_neg c4, if_neg c5, if_neg c6]
              unfold nodeV
              rw [if_neg (fun z => c1 z.1), if_neg (fun z => c3 z.1), if_neg (fun z => c2 z.1), if_neg (fun z => c6 z.1)]
              unfold leafB
              rw [if_neg c4]
              by_cases c7 : w = "pi"
              · subst c7
                have e : inL nonL "pi" = false := by decide +kernel
                have e2 : inL smoL "pi" = true := by decide +kernel
                have e3 : ¬ (("pi" : Str) = "unknown") := by decide +kernel
                rw [e, e2, if_pos rfl, if_neg (by simp), decide_eq_false e3]
                simp
              · by_cases c8 : w = "unknown"
                · subst c8
                  have e : inL nonL "unknown" = false := by decide +kernel
                  have e2 : inL smoL "unknown" = true := by decide +kernel
                  rw [e, e2, if_neg c7, if_pos rfl, if_neg (by simp), decide_eq_false c7]
                  simp
                · rw [if_neg c7, if_neg c8, if_neg c5, decide_eq_false c7, decide_eq_false c8]
                  simp
end LawX

set_option Elab.async false
set_option linter.all false
set_option maxRecDepth 100000
set_option maxHeartbeats 0
set_option exponentiation.threshold 5000
namespace LawX
open PySem PySem.Spec PyProof.Rows L2 Dx
theorem ltree_ok (h : Nat) (c : Ct) (hcc : ∀ e, h = e + 1 → c = cLTree e) (ds : List D) (S : Store) (Q : D → Store → Prop) (E : QX) (hc : cLTree h ds S Q E) : fs_law_is_tree c cWhole cLawFrac cLLine (bodyEnds Q E) (startE N_law_is_tree ds) S := by
  obtain ⟨v, f, l, rfl, hv, hl, hd, hh, hq⟩ := hc
  have hs := sizeLine_eq
  have z1 : ∀ k : Nat, k ≤ 100 → k ≤ sizeLine := fun k h => by omega
  have hdat := okD_dat hv
  cases v with
  | tup xs =>
    have dp1 : 1 ≤ depD (.tup xs) := by simp [depD]
    obtain ⟨k, rfl⟩ : ∃ k, h = k + 1 := ⟨h - 1, by omega⟩
    rw [hcc k rfl]
    cases xs with
    | nil =>
      have e : validM (k + 1) f (.tup []) = false := rfl
      rw [e] at hq
      simp [fs_law_is_tree, fs_law_is_tree_0, seqS, setS, retS, retN, exprS, nilS, ifS, parS, asgS, bindT, bindTs, bindF, callC, varF, retF, consF, nilF, iteV, truF, truD, notF, andF, orF, andV, orV, notV, chF, chT, bodyEnds, startE, optF, idxF, slcF, intF, noF, newL, tyD, isiT, isiB, lenB, absB, intB, gcdB, tupB, lstB, ltG, leG, gtG, geG, isG, isnG, o2I, isO, getS, addF, subF, mulF, eqG_ii, neG_ii, neG_bb, fdivG, modG, powG, raiseS, wipeE, N_law_is_tree]
      exact hq
    | cons x as =>
      have hx := okD_tup.mp hv
      have hxd := okD_dat (hx.2 x (by simp))
      have ln : ¬ (((as.length : Int) + 1) < 1) := by omega
      cases x with
      | str w =>
        have hw := str_dat hv
        simp [fs_law_is_tree, fs_law_is_tree_0, seqS, setS, retS, retN, exprS, nilS, ifS, parS, asgS, bindT, bindTs, bindF, callC, varF, retF, consF, nilF, iteV, truF, truD, notF, andF, orF, andV, orV, notV, chF, chT, bodyEnds, startE, optF, idxF, slcF, intF, noF, newL, tyD, isiT, isiB, lenB, absB, intB, gcdB, tupB, lstB, ltG, leG, gtG, geG, isG, isnG, o2I, isO, getS, addF, subF, mulF, eqG_ii, neG_ii, neG_bb, fdivG, modG, powG, raiseS, wipeE, N_law_is_tree, i0, ln]
        have done : ∀ b : Bool, validM (k + 1) f (.tup (.str w :: as)) = b → Q (.bl b) S := fun b e => by rw [← e]; exact hq
        have vl := valid_law (k := k) (f := f) (w := w) (as := as)
        refine wp1 (E := _) hv (fun h1 => done _ (by rw [vl, if_pos h1])) (fun h1 => ?_)
        rw [if_neg (by rw [h1]; exact Bool.false_ne_true)] at vl
        refine wp2 (E := _) hv hl hd (by omega) (fun h2 => done _ (by rw [vl, if_pos h2])) (fun h2 => ?_)
        rw [if_neg (by rw [h2]; exact Bool.false_ne_true)] at vl
        refine wp3 (E := _) hv hl hd (by omega) (fun h3 => done _ (by rw [vl, if_pos h3])) (fun h3 => ?_)
        rw [if_neg (by rw [h3]; exact Bool.false_ne_true)] at vl
        refine wp4 (E := _) hv hl hd (by omega) (fun h4 => done _ (by rw [vl, if_pos h4])) (fun h4 => ?_)
        rw [if_neg h4] at vl
        refine wp5 (E := _) hv hl hd (by omega) (fun h5 => done _ (by rw [vl, if_pos h5])) (fun h5 => ?_)
        rw [if_neg h5] at vl
        refine wp6 (E := _) hv hl hd (by omega) (fun h6 => done _ (by rw [vl, if_pos h6])) (fun h6 => ?_)
        rw [if_neg h6] at vl
        refine wp7 (E := _) hv hl hd (by omega) (fun h7 => done _ (by rw [vl, if_pos h7])) (fun h7 => ?_)
        rw [if_neg h7] at vl
        simp [seqS, setS, retS, retN, exprS, nilS, ifS, parS, asgS, bindT, bindTs, bindF, callC, varF, retF, consF, nilF, iteV, truF, truD, notF, andF, orF, andV, orV, notV, chF, chT, bodyEnds, startE, optF, idxF, slcF, intF, noF, newL, tyD, isiT, isiB, lenB, absB, intB, gcdB, tupB, lstB, ltG, leG, gtG, geG, isG, isnG, o2I, isO, getS, addF, subF, mulF, eqG_ii, neG_ii, neG_bb, fdivG, modG, powG, raiseS, wipeE, z1]
        have hd64 : depD (.tup (.str w :: as)) ≤ 64 := by omega
        refine eqG_of hdat (by decide +kernel) hd64 (by decide +kernel) ?_
        have e1 : eqD (.tup (.str w :: as)) (.tup [.str "pi"]) = (decide (w = "pi") && as.isEmpty) := by
          simp only [eqD, eqDs]
          rw [Bool.eq_iff_iff]
          cases as <;> simp [eqDs]
        have e2 : eqD (.tup (.str w :: as)) (.tup [.str "unknown"]) = (decide (w = "unknown") && as.isEmpty) := by
          simp only [eqD, eqDs]
          rw [Bool.eq_iff_iff]
          cases as <;> simp [eqDs]
        rw [e1]
        cases hp : (decide (w = "pi") && as.isEmpty) with
        | true =>
          rw [hp, Bool.true_or] at vl
          simp [seqS, setS, retS, retN, exprS, nilS, ifS, parS, asgS, bindT, bindTs, bindF, callC, varF, retF, consF, nilF, iteV, truF, truD, notF, andF, orF, andV, orV, notV, chF, chT, bodyEnds, startE, optF, idxF, slcF, intF, noF, newL, tyD, isiT, isiB, lenB, absB, intB, gcdB, tupB, lstB, ltG, leG, gtG, geG, isG, isnG, o2I, isO, getS, addF, subF, mulF, eqG_ii, neG_ii, neG_bb, fdivG, modG, powG, raiseS, wipeE]
          exact done _ vl
        | false =>
          rw [hp, Bool.false_or] at vl
          simp [seqS, setS, retS, retN, exprS, nilS, ifS, parS, asgS, bindT, bindTs, bindF, callC, varF, retF, consF, nilF, iteV, truF, truD, notF, andF, orF, andV, orV, notV, chF, chT, bodyEnds, startE, optF, idxF, slcF, intF, noF, newL, tyD, isiT, isiB, lenB, absB, intB, gcdB, tupB, lstB, ltG, leG, gtG, geG, isG, isnG, o2I, isO, getS, addF, subF, mulF, eqG_ii, neG_ii, neG_bb, fdivG, modG, powG, raiseS, wipeE, z1]
          refine eqG_of hdat (by decide +kernel) hd64 (by decide +kernel) ?_
          rw [e2]
          cases hu : (decide (w = "unknown") && as.isEmpty) with
          | true =>
            rw [hu, Bool.true_and] at vl
            simp [seqS, setS, retS, retN, exprS, nilS, ifS, parS, asgS, bindT, bindTs, bindF, callC, varF, retF, consF, nilF, iteV, truF, truD, notF, andF, orF, andV, orV, notV, chF, chT, bodyEnds, startE, optF, idxF, slcF, intF, noF, newL, tyD, isiT, isiB, lenB, absB, intB, gcdB, tupB, lstB, ltG, leG, gtG, geG, isG, isnG, o2I, isO, getS, addF, subF, mulF, eqG_ii, neG_ii, neG_bb, fdivG, modG, powG, raiseS, wipeE]
            exact done _ vl
          | false =>
            rw [hu, Bool.false_and] at vl
            simp [seqS, setS, retS, retN, exprS, nilS, ifS, parS, asgS, bindT, bindTs, bindF, callC, varF, retF, consF, nilF, iteV, truF, truD, notF, andF, orF, andV, orV, notV, chF, chT, bodyEnds, startE, optF, idxF, slcF, intF, noF, newL, tyD, isiT, isiB, lenB, absB, intB, gcdB, tupB, lstB, ltG, leG, gtG, geG, isG, isnG, o2I, isO, getS, addF, subF, mulF, eqG_ii, neG_ii, neG_bb, fdivG, modG, powG, raiseS, wipeE]
            exact done _ vl
      | _ =>
        simp [datD] at hxd <;> simp [validM] at hq <;> simp [fs_law_is_tree, fs_law_is_tree_0, seqS, setS, retS, retN, exprS, nilS, ifS, parS, asgS, bindT, bindTs, bindF, callC, varF, retF, consF, nilF, iteV, truF, truD, notF, andF, orF, andV, orV, notV, chF, chT, bodyEnds, startE, optF, idxF, slcF, intF, noF, newL, tyD, isiT, isiB, lenB, absB, intB, gcdB, tupB, lstB, ltG, leG, gtG, geG, isG, isnG, o2I, isO, getS, addF, subF, mulF, eqG_ii, neG_ii, neG_bb, fdivG, modG, powG, raiseS, wipeE, N_law_is_tree, i0, ln] <;> exact hq
  | _ =>
    simp [datD] at hdat <;>
    (have e : ∀ d : D, (∀ xs, d ≠ .tup xs) → validM h f d = false := fun d hd => by
      cases h with
      | zero => rfl
      | succ k => cases d <;> first | rfl | exact absurd rfl (hd _)
     rw [e _ (fun xs z => by cases z)] at hq
     simp [fs_law_is_tree, fs_law_is_tree_0, seqS, setS, retS, retN, exprS, nilS, ifS, parS, asgS, bindT, bindTs, bindF, callC, varF, retF, consF, nilF, iteV, truF, truD, notF, andF, orF, andV, orV, notV, chF, chT, bodyEnds, startE, optF, idxF, slcF, intF, noF, newL, tyD, isiT, isiB, lenB, absB, intB, gcdB, tupB, lstB, ltG, leG, gtG, geG, isG, isnG, o2I, isO, getS, addF, subF, mulF, eqG_ii, neG_ii, neG_bb, fdivG, modG, powG, raiseS, wipeE, N_law_is_tree]
     exact hq)
/-! ### the law's parts, height -/
theorem part_test {d : D} (h : datD d = true) {S : Store} {Q : Bool → Store → Prop} {a : Option D} (hq : Q (isPart d) S) :
    (andF (truT (biE isiB (consF (varF 1) (consF (ty! "tuple") nilF)))) (andF (cmpT gtG (biE lenB (consF (varF 1) nilF)) (int! 0)) (truT (biE isiB (consF (idxE (varF 1) (int! 0)) (consF (ty! "str") nilF)))))) [a, some d] S Q noX := by
  cases d with
  | tup xs =>
    cases xs with
    | nil => simp [isPart] at hq; simp [seqS, setS, retS, retN, exprS, nilS, ifS, parS, asgS, bindT, bindTs, bindF, callC, varF, retF, consF, nilF, iteV, truF, truD, notF, andF, orF, andV, orV, notV, chF, chT, bodyEnds, startE, optF, idxF, slcF, intF, noF, newL, tyD, isiT, isiB, lenB, absB, intB, gcdB, tupB, lstB, ltG, leG, gtG, geG, isG, isnG, o2I, isO, getS, addF, subF, mulF, eqG_ii, neG_ii, neG_bb, fdivG, modG, powG, raiseS, wipeE]; exact hq
    | cons x as =>
      have ln : (0 : Int) < (as.length : Int) + 1 := by omega
      have hx : datD x = true := by
        simp [datD, datDs] at h
        exact h.1
      cases x <;> simp [datD] at hx <;> simp [isPart] at hq <;> simp [seqS, setS, retS, retN, exprS, nilS, ifS, parS, asgS, bindT, bindTs, bindF, callC, varF, retF, consF, nilF, iteV, truF, truD, notF, andF, orF, andV, orV, notV, chF, chT, bodyEnds, startE, optF, idxF, slcF, intF, noF, newL, tyD, isiT, isiB, lenB, absB, intB, gcdB, tupB, lstB, ltG, leG, gtG, geG, isG, isnG, o2I, isO, getS, addF, subF, mulF, eqG_ii, neG_ii, neG_bb, fdivG, modG, powG, raiseS, wipeE, ln, i0] <;> exact hq
  | _ => simp [datD] at h <;> simp [isPart] at hq <;> simp [seqS, setS, retS, retN, exprS, nilS, ifS, parS, asgS, bindT, bindTs, bindF, callC, varF, retF, consF, nilF, iteV, truF, truD, notF, andF, orF, andV, orV, notV, chF, chT, bodyEnds, startE, optF, idxF, slcF, intF, noF, newL, tyD, isiT, isiB, lenB, absB, intB, gcdB, tupB, lstB, ltG, leG, gtG, geG, isG, isnG, o2I, isO, getS, addF, subF, mulF, eqG_ii, neG_ii, neG_bb, fdivG, modG, powG, raiseS, wipeE] <;> exact hq
def cLInner : Ct := fun ds S Q _ => ∃ xs l, ds = [.tup xs] ∧ xs ≠ [] ∧ okD l (.tup xs) = true ∧ l ≤ 1000 ∧ Q (.lst (kidsM (.tup xs))) S
theorem linner_ok (ds : List D) (S : Store) (Q : D → Store → Prop) (E : QX) (hc : cLInner ds S Q E) : fs_law_inner (bodyEnds Q E) (startE N_law_inner ds) S := by
  obtain ⟨xs, l, rfl, hne, ho, hl, hq⟩ := hc
  have hs := sizeLine_eq
  have hx := okD_tup.mp ho
  cases xs with
  | nil => exact absurd rfl hne
  | cons x as =>
    simp only [fs_law_inner, retS]
    have ec : Dx.cutD (x :: as) (some 1) none = as := by rw [cut_from (by decide)]; rfl
    refine compF_val as (fun _ => True) isPart id (fun Q h => ?_) trivial (by simp at hx; omega) (fun d hd => ⟨[some (.tup (x :: as)), some d], rfl, fun Q h => part_test (okD_dat (hx.2 d (by simp [hd]))) h, fun _ Q h => ?_⟩) ?_
    · simp [seqS, setS, retS, retN, exprS, nilS, ifS, parS, asgS, bindT, bindTs, bindF, callC, varF, retF, consF, nilF, iteV, truF, truD, notF, andF, orF, andV, orV, notV, chF, chT, bodyEnds, startE, optF, idxF, slcF, intF, noF, newL, tyD, isiT, isiB, lenB, absB, intB, gcdB, tupB, lstB, ltG, leG, gtG, geG, isG, isnG, o2I, isO, getS, addF, subF, mulF, eqG_ii, neG_ii, neG_bb, fdivG, modG, powG, raiseS, wipeE, N_law_inner, itsF, ec]; exact h
    · simp [seqS, setS, retS, retN, exprS, nilS, ifS, parS, asgS, bindT, bindTs, bindF, callC, varF, retF, consF, nilF, iteV, truF, truD, notF, andF, orF, andV, orV, notV, chF, chT, bodyEnds, startE, optF, idxF, slcF, intF, noF, newL, tyD, isiT, isiB, lenB, absB, intB, gcdB, tupB, lstB, ltG, leG, gtG, geG, isG, isnG, o2I, isO, getS, addF, subF, mulF, eqG_ii, neG_ii, neG_bb, fdivG, modG, powG, raiseS, wipeE]; exact h
    · simpa [kidsM, bodyEnds] using hq
theorem kid_okD {l : Nat} {xs : List D} (ho : okD l (.tup xs) = true) : ∀ d ∈ kidsM (.tup xs), okD l d = true ∧ (∃ ys, d = .tup ys ∧ ys ≠ []) := fun d hd => by
  cases xs with
  | nil => cases hd
  | cons x as =>
    have hx := okD_tup.mp ho
    simp only [kidsM, List.mem_filter] at hd
    refine ⟨hx.2 d (by simp [hd.1]), ?_⟩
    have := hd.2
    unfold isPart at this
    split at this
    · exact ⟨_, rfl, by simp⟩
    · cases this
theorem kid_dep {n : Nat} {xs : List D} (hd : depD (.tup xs) ≤ n + 1) : ∀ d ∈ kidsM (.tup xs), depD d ≤ n := fun d h => by
  cases xs with
  | nil => cases h
  | cons x as =>
    simp only [kidsM, List.mem_filter] at h
    have := depD_mem hd (d := d) (by simp [h.1])
    omega
theorem kid_len {l : Nat} {xs : List D} (ho : okD l (.tup xs) = true) : (kidsM (.tup xs)).length ≤ l := by
  cases xs with
  | nil => simp [kidsM]
  | cons x as =>
    have hx := okD_tup.mp ho
    have := List.length_filter_le isPart as
    simp only [kidsM]
    simp at hx
    omega
def cLHigh (h : Nat) : Ct := fun ds S Q _ => ∃ xs l, ds = [.tup xs] ∧ xs ≠ [] ∧ okD l (.tup xs) = true ∧ l ≤ 1000 ∧ depD (.tup xs) ≤ h ∧ Q (.int (highM h (.tup xs) : Nat)) S
theorem maxL_nat : ∀ (ns : List Nat) (a : Nat), maxL (a : Int) (ns.map Int.ofNat) = ((max a (maxN ns) : Nat) : Int)
  | [], a => by simp [maxL, maxN]
  | n :: r, a => by
    simp only [List.map_cons, maxL, maxN]
    have e : (if (Int.ofNat n) > (a : Int) then Int.ofNat n else (a : Int)) = ((max a n : Nat) : Int) := by
      have : Int.ofNat n = (n : Int) := rfl
      rw [this]
      split <;> omega
    rw [e, maxL_nat r (max a n)]
    congr 1
    omega
theorem allSome_nat : ∀ {ns : List Nat}, allSome asInt (ns.map fun n => .int (n : Nat)) = some (ns.map Int.ofNat)
  | [] => rfl
  | n :: r => by simp [allSome, asInt, allSome_nat (ns := r)]
theorem lhigh_ok (h : Nat) (c : Ct) (hcc : ∀ e, h = e + 1 → c = cLHigh e) (ds : List D) (S : Store) (Q : D → Store → Prop) (E : QX) (hc : cLHigh h ds S Q E) : fs_law_high cLInner c (bodyEnds Q E) (startE N_law_high ds) S := by
  obtain ⟨xs, l, rfl, hne, ho, hl, hd, hq⟩ := hc
  have hs := sizeLine_eq
  have z1 : ∀ k : Nat, k ≤ 100 → k ≤ sizeLine := fun k h => by omega
  have dp1 : 1 ≤ depD (.tup xs) := by simp [depD]
  obtain ⟨k, rfl⟩ : ∃ k, h = k + 1 := ⟨h - 1, by omega⟩
  rw [hcc k rfl]
  have hkid := kid_okD ho
  have hkd := kid_dep hd
  have hkl := kid_len ho
  simp [fs_law_high, seqS, setS, retS, retN, exprS, nilS, ifS, parS, asgS, bindT, bindTs, bindF, callC, varF, retF, consF, nilF, iteV, truF, truD, notF, andF, orF, andV, orV, notV, chF, chT, bodyEnds, startE, optF, idxF, slcF, intF, noF, newL, tyD, isiT, isiB, lenB, absB, intB, gcdB, tupB, lstB, ltG, leG, gtG, geG, isG, isnG, o2I, isO, getS, addF, subF, mulF, eqG_ii, neG_ii, neG_bb, fdivG, modG, powG, raiseS, wipeE, N_law_high, z1]
  refine compF_val (kidsM (.tup xs)) (fun _ => True) (fun _ => true) (fun d => .int (highM k d : Nat)) (fun Q h => ?_) trivial (by omega) (fun d hd => ⟨_, rfl, fun Q h => h, fun _ Q h => ?_⟩) ?_
  · simp [seqS, setS, retS, retN, exprS, nilS, ifS, parS, asgS, bindT, bindTs, bindF, callC, varF, retF, consF, nilF, iteV, truF, truD, notF, andF, orF, andV, orV, notV, chF, chT, bodyEnds, startE, optF, idxF, slcF, intF, noF, newL, tyD, isiT, isiB, lenB, absB, intB, gcdB, tupB, lstB, ltG, leG, gtG, geG, isG, isnG, o2I, isO, getS, addF, subF, mulF, eqG_ii, neG_ii, neG_bb, fdivG, modG, powG, raiseS, wipeE]
    refine ⟨xs, l, rfl, hne, ho, hl, ?_⟩
    simp [itsF, seqS, setS, retS, retN, exprS, nilS, ifS, parS, asgS, bindT, bindTs, bindF, callC, varF, retF, consF, nilF, iteV, truF, truD, notF, andF, orF, andV, orV, notV, chF, chT, bodyEnds, startE, optF, idxF, slcF, intF, noF, newL, tyD, isiT, isiB, lenB, absB, intB, gcdB, tupB, lstB, ltG, leG, gtG, geG, isG, isnG, o2I, isO, getS, addF, subF, mulF, eqG_ii, neG_ii, neG_bb, fdivG, modG, powG, raiseS, wipeE]
    exact h
  · obtain ⟨h1, ys, rfl, h2⟩ := hkid d hd
    simp [seqS, setS, retS, retN, exprS, nilS, ifS, parS, asgS, bindT, bindTs, bindF, callC, varF, retF, consF, nilF, iteV, truF, truD, notF, andF, orF, andV, orV, notV, chF, chT, bodyEnds, startE, optF, idxF, slcF, intF, noF, newL, tyD, isiT, isiB, lenB, absB, intB, gcdB, tupB, lstB, ltG, leG, gtG, geG, isG, isnG, o2I, isO, getS, addF, subF, mulF, eqG_ii, neG_ii, neG_bb, fdivG, modG, powG, raiseS, wipeE]
    exact ⟨ys, l, rfl, h2, h1, hl, hkd _ hd, h⟩
  · have ef : (kidsM (.tup xs)).filter (fun _ => true) = kidsM (.tup xs) := by simp
    rw [ef]
    have e1 : ([] ++ [D.int 0] ++ (kidsM (.tup xs)).map fun d => D.int (highM k d : Nat)) = (0 :: (kidsM (.tup xs)).map (highM k)).map (fun n => D.int (n : Nat)) := by simp
    have e2 : D.int 0 :: ((kidsM (.tup xs)).map fun d => D.int (highM k d : Nat)) = (0 :: (kidsM (.tup xs)).map (highM k)).map (fun n => D.int (n : Nat)) := by simp
    have e3 := allSome_nat (ns := 0 :: (kidsM (.tup xs)).map (highM k))
    have e4 : highM (k + 1) (.tup xs) = 1 + maxN ((kidsM (.tup xs)).map (highM k)) := rfl
    have e5 := maxL_nat ((kidsM (.tup xs)).map (highM k)) 0
    rw [e4] at hq
    have e6 : allSome asInt (D.int 0 :: List.map ((fun n : Nat => D.int n) ∘ highM k) (kidsM (.tup xs))) = some ((0 : Int) :: ((kidsM (.tup xs)).map (highM k)).map Int.ofNat) := by simpa using e3
    simp [seqS, setS, retS, retN, exprS, nilS, ifS, parS, asgS, bindT, bindTs, bindF, callC, varF, retF, consF, nilF, iteV, truF, truD, notF, andF, orF, andV, orV, notV, chF, chT, bodyEnds, startE, optF, idxF, slcF, intF, noF, newL, tyD, isiT, isiB, lenB, absB, intB, gcdB, tupB, lstB, ltG, leG, gtG, geG, isG, isnG, o2I, isO, getS, addF, subF, mulF, eqG_ii, neG_ii, neG_bb, fdivG, modG, powG, raiseS, wipeE, e2, maxB]
    refine ⟨by omega, ?_⟩
    rw [e6]
    have e7 : (1 : Int) + maxL 0 (((kidsM (.tup xs)).map (highM k)).map Int.ofNat) = ((1 + maxN ((kidsM (.tup xs)).map (highM k)) : Nat) : Int) := by
      have e8 : maxL 0 (((kidsM (.tup xs)).map (highM k)).map Int.ofNat) = ((max 0 (maxN ((kidsM (.tup xs)).map (highM k))) : Nat) : Int) := e5
      rw [e8]
      omega
    show Q (.int (1 + maxL 0 (((kidsM (.tup xs)).map (highM k)).map Int.ofNat))) S
    rw [e7]
    exact hq
end LawX

set_option Elab.async false
set_option linter.all false
set_option maxRecDepth 100000
set_option maxHeartbeats 0
set_option exponentiation.threshold 5000
namespace LawX
open PySem PySem.Spec PyProof.Rows L2 Dx
def cLParts (h : Nat) : Ct := fun ds S Q _ => ∃ v f l, ds = [v] ∧ validM h f v = true ∧ okD l v = true ∧ l ≤ 1000 ∧ (partsL h v).length ≤ sizeLine ∧ Q (.lst (partsL h v)) S
theorem lparts_ok (h : Nat) (c : Ct) (hcc : ∀ e, h = e + 1 → c = cLParts e) (ds : List D) (S : Store) (Q : D → Store → Prop) (E : QX) (hc : cLParts h ds S Q E) : fs_law_parts cLInner c (bodyEnds Q E) (startE N_law_parts ds) S := by
  obtain ⟨v, f, l, rfl, hv, ho, hl, hlen, hq⟩ := hc
  have hs := sizeLine_eq
  have z1 : ∀ k : Nat, k ≤ 100 → k ≤ sizeLine := fun k h => by omega
  obtain ⟨k, w, as, cs, rfl, rfl, h1, hk⟩ := valid_kids hv
  rw [hcc k rfl]
  have hko := kids_ok hk ho
  have hkv := hk.valid
  rw [parts_succ, hk.kids] at hq hlen
  simp [fs_law_parts, seqS, setS, retS, retN, exprS, nilS, ifS, parS, asgS, bindT, bindTs, bindF, callC, varF, retF, consF, nilF, iteV, truF, truD, notF, andF, orF, andV, orV, notV, chF, chT, bodyEnds, startE, optF, idxF, slcF, intF, noF, newL, tyD, isiT, isiB, lenB, absB, intB, gcdB, tupB, lstB, ltG, leG, gtG, geG, isG, isnG, o2I, isO, getS, addF, subF, mulF, eqG_ii, neG_ii, neG_bb, fdivG, modG, powG, raiseS, wipeE, N_law_parts, z1, forS]
  refine ⟨_, l, rfl, by simp, ho, hl, ?_⟩
  rw [hk.kids]
  simp [itsF, seqS, setS, retS, retN, exprS, nilS, ifS, parS, asgS, bindT, bindTs, bindF, callC, varF, retF, consF, nilF, iteV, truF, truD, notF, andF, orF, andV, orV, notV, chF, chT, bodyEnds, startE, optF, idxF, slcF, intF, noF, newL, tyD, isiT, isiB, lenB, absB, intB, gcdB, tupB, lstB, ltG, leG, gtG, geG, isG, isnG, o2I, isO, getS, addF, subF, mulF, eqG_ii, neG_ii, neG_bb, fdivG, modG, powG, raiseS, wipeE]
  rcases kids_few hk with rfl | ⟨c1, rfl⟩ | ⟨c1, c2, rfl⟩
  · simp at hq
    simp [forL, seqS, setS, retS, retN, exprS, nilS, ifS, parS, asgS, bindT, bindTs, bindF, callC, varF, retF, consF, nilF, iteV, truF, truD, notF, andF, orF, andV, orV, notV, chF, chT, bodyEnds, startE, optF, idxF, slcF, intF, noF, newL, tyD, isiT, isiB, lenB, absB, intB, gcdB, tupB, lstB, ltG, leG, gtG, geG, isG, isnG, o2I, isO, getS, addF, subF, mulF, eqG_ii, neG_ii, neG_bb, fdivG, modG, powG, raiseS, wipeE]
    exact hq
  · simp at hq hlen
    simp [forL, seqS, setS, retS, retN, exprS, nilS, ifS, parS, asgS, bindT, bindTs, bindF, callC, varF, retF, consF, nilF, iteV, truF, truD, notF, andF, orF, andV, orV, notV, chF, chT, bodyEnds, startE, optF, idxF, slcF, intF, noF, newL, tyD, isiT, isiB, lenB, absB, intB, gcdB, tupB, lstB, ltG, leG, gtG, geG, isG, isnG, o2I, isO, getS, addF, subF, mulF, eqG_ii, neG_ii, neG_bb, fdivG, modG, powG, raiseS, wipeE]
    refine ⟨_, c1.1, l, rfl, hkv c1 (by simp), hko c1 (by simp), hl, by omega, ?_⟩
    simp [seqS, setS, retS, retN, exprS, nilS, ifS, parS, asgS, bindT, bindTs, bindF, callC, varF, retF, consF, nilF, iteV, truF, truD, notF, andF, orF, andV, orV, notV, chF, chT, bodyEnds, startE, optF, idxF, slcF, intF, noF, newL, tyD, isiT, isiB, lenB, absB, intB, gcdB, tupB, lstB, ltG, leG, gtG, geG, isG, isnG, o2I, isO, getS, addF, subF, mulF, eqG_ii, neG_ii, neG_bb, fdivG, modG, powG, raiseS, wipeE]
    exact ⟨by omega, hq⟩
  · simp at hq hlen
    simp [forL, seqS, setS, retS, retN, exprS, nilS, ifS, parS, asgS, bindT, bindTs, bindF, callC, varF, retF, consF, nilF, iteV, truF, truD, notF, andF, orF, andV, orV, notV, chF, chT, bodyEnds, startE, optF, idxF, slcF, intF, noF, newL, tyD, isiT, isiB, lenB, absB, intB, gcdB, tupB, lstB, ltG, leG, gtG, geG, isG, isnG, o2I, isO, getS, addF, subF, mulF, eqG_ii, neG_ii, neG_bb, fdivG, modG, powG, raiseS, wipeE]
    refine ⟨_, c1.1, l, rfl, hkv c1 (by simp), hko c1 (by simp), hl, by omega, ?_⟩
    simp [seqS, setS, retS, retN, exprS, nilS, ifS, parS, asgS, bindT, bindTs, bindF, callC, varF, retF, consF, nilF, iteV, truF, truD, notF, andF, orF, andV, orV, notV, chF, chT, bodyEnds, startE, optF, idxF, slcF, intF, noF, newL, tyD, isiT, isiB, lenB, absB, intB, gcdB, tupB, lstB, ltG, leG, gtG, geG, isG, isnG, o2I, isO, getS, addF, subF, mulF, eqG_ii, neG_ii, neG_bb, fdivG, modG, powG, raiseS, wipeE]
    refine ⟨by omega, _, c2.1, l, rfl, hkv c2 (by simp), hko c2 (by simp), hl, by omega, ?_⟩
    simp [seqS, setS, retS, retN, exprS, nilS, ifS, parS, asgS, bindT, bindTs, bindF, callC, varF, retF, consF, nilF, iteV, truF, truD, notF, andF, orF, andV, orV, notV, chF, chT, bodyEnds, startE, optF, idxF, slcF, intF, noF, newL, tyD, isiT, isiB, lenB, absB, intB, gcdB, tupB, lstB, ltG, leG, gtG, geG, isG, isnG, o2I, isO, getS, addF, subF, mulF, eqG_ii, neG_ii, neG_bb, fdivG, modG, powG, raiseS, wipeE]
    exact ⟨by omega, hq⟩
theorem parts_pow : ∀ (h : Nat) (f : Bool) (v : D), validM h f v = true → (partsL h v).length < 2 ^ h
  | 0, _, _, hv => by cases hv
  | h + 1, f, v, hv => by
    obtain ⟨k, w, as, cs, e1, rfl, h1, hk⟩ := valid_kids hv
    have e1 : h = k := by omega
    subst e1
    rw [parts_succ, hk.kids]
    have ih : ∀ c ∈ cs, (partsL h c.2).length < 2 ^ h := fun c hc => parts_pow h c.1 c.2 (hk.valid c hc)
    have hp : 0 < 2 ^ h := Nat.pos_of_neZero _
    have e2 : 2 ^ (h + 1) = 2 ^ h + 2 ^ h := by rw [Nat.pow_succ]; omega
    rcases kids_few hk with rfl | ⟨c1, rfl⟩ | ⟨c1, c2, rfl⟩
    · simp <;> omega
    · have := ih c1 (by simp)
      simp <;> omega
    · have := ih c1 (by simp)
      have := ih c2 (by simp)
      simp <;> omega
theorem fits_eq {f : Bool} {v : D} : (validM 20 f v && (decide ((partsL 20 v).length ≤ 40) && decide (highM 20 v ≤ 12))) = treeB f v := by
  rw [Bool.eq_iff_iff]
  simp only [treeB, Bool.and_eq_true, decide_eq_true_eq]
  constructor
  · rintro ⟨h1, h2, h3⟩
    have h4 := valid_less 20 f v 12 h1 h3
    have h5 := (valid_more 12 f v h4 20 (by omega)).2.1
    rw [h5] at h2
    exact ⟨h4, h2⟩
  · rintro ⟨h1, h2⟩
    obtain ⟨h3, h4, h5⟩ := valid_more 12 f v h1 20 (by omega)
    rw [h4]
    exact ⟨h3, h2, h5⟩
def cLFits : Ct := fun ds S Q _ => ∃ v f l, ds = [v, .bl f] ∧ okD l v = true ∧ l ≤ 1000 ∧ depD v ≤ 20 ∧ Q (.bl (treeB f v)) S
theorem lfits_ok (ds : List D) (S : Store) (Q : D → Store → Prop) (E : QX) (hc : cLFits ds S Q E) : fs_law_fits (cLTree 20) (cLParts 20) (cLHigh 20) (bodyEnds Q E) (startE N_law_fits ds) S := by
  obtain ⟨v, f, l, rfl, hv, hl, hd, hq⟩ := hc
  have hs := sizeLine_eq
  rw [← fits_eq] at hq
  simp [fs_law_fits, seqS, setS, retS, retN, exprS, nilS, ifS, parS, asgS, bindT, bindTs, bindF, callC, varF, retF, consF, nilF, iteV, truF, truD, notF, andF, orF, andV, orV, notV, chF, chT, bodyEnds, startE, optF, idxF, slcF, intF, noF, newL, tyD, isiT, isiB, lenB, absB, intB, gcdB, tupB, lstB, ltG, leG, gtG, geG, isG, isnG, o2I, isO, getS, addF, subF, mulF, eqG_ii, neG_ii, neG_bb, fdivG, modG, powG, raiseS, wipeE, N_law_fits]
  refine ⟨v, f, l, rfl, hv, hl, hd, by omega, ?_⟩
  cases h1 : validM 20 f v with
  | false =>
    simp [h1] at hq
    simp [seqS, setS, retS, retN, exprS, nilS, ifS, parS, asgS, bindT, bindTs, bindF, callC, varF, retF, consF, nilF, iteV, truF, truD, notF, andF, orF, andV, orV, notV, chF, chT, bodyEnds, startE, optF, idxF, slcF, intF, noF, newL, tyD, isiT, isiB, lenB, absB, intB, gcdB, tupB, lstB, ltG, leG, gtG, geG, isG, isnG, o2I, isO, getS, addF, subF, mulF, eqG_ii, neG_ii, neG_bb, fdivG, modG, powG, raiseS, wipeE]
    exact hq
  | true =>
    rw [h1, Bool.true_and] at hq
    have hp := parts_pow 20 f v h1
    have e20 : 2 ^ 20 = 1048576 := by decide
    simp [seqS, setS, retS, retN, exprS, nilS, ifS, parS, asgS, bindT, bindTs, bindF, callC, varF, retF, consF, nilF, iteV, truF, truD, notF, andF, orF, andV, orV, notV, chF, chT, bodyEnds, startE, optF, idxF, slcF, intF, noF, newL, tyD, isiT, isiB, lenB, absB, intB, gcdB, tupB, lstB, ltG, leG, gtG, geG, isG, isnG, o2I, isO, getS, addF, subF, mulF, eqG_ii, neG_ii, neG_bb, fdivG, modG, powG, raiseS, wipeE]
    refine ⟨v, f, l, rfl, h1, hv, hl, by omega, ?_⟩
    by_cases h2 : (partsL 20 v).length ≤ 40
    · have e : ((partsL 20 v).length : Int) ≤ 40 := by omega
      simp [h2] at hq
      simp [e, seqS, setS, retS, retN, exprS, nilS, ifS, parS, asgS, bindT, bindTs, bindF, callC, varF, retF, consF, nilF, iteV, truF, truD, notF, andF, orF, andV, orV, notV, chF, chT, bodyEnds, startE, optF, idxF, slcF, intF, noF, newL, tyD, isiT, isiB, lenB, absB, intB, gcdB, tupB, lstB, ltG, leG, gtG, geG, isG, isnG, o2I, isO, getS, addF, subF, mulF, eqG_ii, neG_ii, neG_bb, fdivG, modG, powG, raiseS, wipeE]
      obtain ⟨k, w, as, _, rfl, _⟩ := valid_form h1
      refine ⟨_, l, rfl, by simp, hv, hl, hd, ?_⟩
      simp [seqS, setS, retS, retN, exprS, nilS, ifS, parS, asgS, bindT, bindTs, bindF, callC, varF, retF, consF, nilF, iteV, truF, truD, notF, andF, orF, andV, orV, notV, chF, chT, bodyEnds, startE, optF, idxF, slcF, intF, noF, newL, tyD, isiT, isiB, lenB, absB, intB, gcdB, tupB, lstB, ltG, leG, gtG, geG, isG, isnG, o2I, isO, getS, addF, subF, mulF, eqG_ii, neG_ii, neG_bb, fdivG, modG, powG, raiseS, wipeE]
      by_cases h3 : highM 20 (.tup (.str w :: as)) ≤ 12
      · have e3 : (highM 20 (.tup (.str w :: as)) : Int) ≤ 12 := by omega
        simp [h3] at hq
        simp [e3]
        exact hq
      · have e3 : ¬ (highM 20 (.tup (.str w :: as)) : Int) ≤ 12 := by omega
        simp [h3] at hq
        simp [e3]
        exact hq
    · have e : ¬ ((partsL 20 v).length : Int) ≤ 40 := by omega
      simp [h2] at hq
      simp [e, seqS, setS, retS, retN, exprS, nilS, ifS, parS, asgS, bindT, bindTs, bindF, callC, varF, retF, consF, nilF, iteV, truF, truD, notF, andF, orF, andV, orV, notV, chF, chT, bodyEnds, startE, optF, idxF, slcF, intF, noF, newL, tyD, isiT, isiB, lenB, absB, intB, gcdB, tupB, lstB, ltG, leG, gtG, geG, isG, isnG, o2I, isO, getS, addF, subF, mulF, eqG_ii, neG_ii, neG_bb, fdivG, modG, powG, raiseS, wipeE]
      exact hq
theorem eqG_bb {a b : Bool} {τ : Dx.Env} {S : Store} {Q : D → Store → Prop} {E : QX} : eqG (.bl a) (.bl b) τ S Q E = Q (.bl (a == b)) S := by
  unfold eqG optF
  rw [eqO_of rfl rfl (by simp [depD]) (by simp [depD])]
  simp only [eqD]
def cRight : Ct := fun ds S Q _ => ∃ v l, ds = [v] ∧ okD l v = true ∧ l ≤ 1000 ∧ depD v ≤ 20 ∧ Q (.bl true) S
theorem right_ok (ds : List D) (S : Store) (Q : D → Store → Prop) (E : QX) (hc : cRight ds S Q E) : fs_law_right (cTreeF false) cLFits (cTreeF true) (bodyEnds Q E) (startE N_law_right ds) S := by
  obtain ⟨v, l, rfl, hv, hl, hd, hq⟩ := hc
  simp [fs_law_right, seqS, setS, retS, retN, exprS, nilS, ifS, parS, asgS, bindT, bindTs, bindF, callC, varF, retF, consF, nilF, iteV, truF, truD, notF, andF, orF, andV, orV, notV, chF, chT, bodyEnds, startE, optF, idxF, slcF, intF, noF, newL, tyD, isiT, isiB, lenB, absB, intB, gcdB, tupB, lstB, ltG, leG, gtG, geG, isG, isnG, o2I, isO, getS, addF, subF, mulF, eqG_ii, neG_ii, neG_bb, fdivG, modG, powG, raiseS, wipeE, N_law_right]
  refine ⟨v, l, rfl, hv, hl, v, false, l, rfl, hv, hl, hd, ?_⟩
  simp only [eqG_bb]
  simp [seqS, setS, retS, retN, exprS, nilS, ifS, parS, asgS, bindT, bindTs, bindF, callC, varF, retF, consF, nilF, iteV, truF, truD, notF, andF, orF, andV, orV, notV, chF, chT, bodyEnds, startE, optF, idxF, slcF, intF, noF, newL, tyD, isiT, isiB, lenB, absB, intB, gcdB, tupB, lstB, ltG, leG, gtG, geG, isG, isnG, o2I, isO, getS, addF, subF, mulF, eqG_ii, neG_ii, neG_bb, fdivG, modG, powG, raiseS, wipeE]
  refine ⟨v, l, rfl, hv, hl, v, true, l, rfl, hv, hl, hd, ?_⟩
  simp only [eqG_bb]
  simp
  exact hq
/-! ### the drawn trees -/
def cDraw (fuel : Nat) : Ct := fun ds S Q _ => ∃ n, ds = [.obj n, .int (fuel : Nat)] ∧ Cup n S ∧ fuel ≤ 5 ∧ ∀ t S', okD 4 t = true → depD t ≤ 3 * fuel + 3 → (∃ w as, t = .tup (.str w :: as)) → CupR n S S' → Q t S'
theorem tup_ok {l : Nat} {ds : List D} (h : ds.length ≤ l) (ho : ∀ d ∈ ds, okD l d = true) : okD l (.tup ds) = true := okD_tup.mpr ⟨h, ho⟩
end LawX

set_option Elab.async false
set_option linter.all false
set_option maxRecDepth 100000
set_option maxHeartbeats 0
set_option exponentiation.threshold 5000
namespace LawX
open PySem PySem.Spec PyProof.Rows L2 Dx
/-- a drawn tree -/
structure Tr (n : Nat) (t : D) : Prop where
  ok : okD 4 t = true
  dep : depD t ≤ n
  form : ∃ w as, t = .tup (.str w :: as)
theorem tr_mk {n : Nat} {w : Str} {as : List D} (hw : datD (.str w) = true) (hl : as.length ≤ 3) (h : ∀ d ∈ as, okD 4 d = true ∧ depD d ≤ n) : Tr (n + 1) (.tup (.str w :: as)) := by
  refine ⟨okD_tup.mpr ⟨by simp; omega, fun d hd => ?_⟩, depD_tup.mpr fun d hd => ?_, _, _, rfl⟩
  · rcases List.mem_cons.mp hd with rfl | hd
    · simpa [okD, datD] using hw
    · exact (h d hd).1
  · rcases List.mem_cons.mp hd with rfl | hd
    · simp [depD]
    · exact (h d hd).2
theorem Tr.mono {n m : Nat} {t : D} (h : Tr n t) (hm : n ≤ m) : Tr m t := ⟨h.ok, Nat.le_trans h.dep hm, h.form⟩
theorem tr1 {n : Nat} {w : Str} {a : D} (hw : datD (.str w) = true) (h : okD 4 a = true ∧ depD a ≤ n) : Tr (n + 1) (.tup [.str w, a]) := tr_mk hw (by simp) fun d hd => by simp at hd; subst hd; exact h
theorem tr2 {n : Nat} {w : Str} {a b : D} (hw : datD (.str w) = true) (h : okD 4 a = true ∧ depD a ≤ n) (h2 : okD 4 b = true ∧ depD b ≤ n) : Tr (n + 1) (.tup [.str w, a, b]) := tr_mk hw (by simp) fun d hd => by
  simp at hd
  rcases hd with rfl | rfl
  · exact h
  · exact h2
theorem int_ok {i : Int} {n : Nat} (h : i.natAbs ≤ 1000) : okD 4 (.int i) = true ∧ depD (.int i) ≤ n := by
  have : 1000 < 2 ^ 4000 := by decide
  exact ⟨okD_int.mpr (by omega), by simp [depD]⟩
theorem pair_ok {a b : Int} {n : Nat} (ha : a.natAbs ≤ 1000) (hb : b.natAbs ≤ 1000) : okD 4 (.tup [.int a, .int b]) = true ∧ depD (.tup [.int a, .int b]) ≤ n + 1 := by
  refine ⟨okD_tup.mpr ⟨by simp, fun d hd => ?_⟩, depD_tup.mpr fun d hd => ?_⟩ <;> simp at hd <;> rcases hd with rfl | rfl
  · exact (int_ok (n := 0) ha).1
  · exact (int_ok (n := 0) hb).1
  · simp [depD]
  · simp [depD]
theorem madeT {a b : Int} {n : Nat} (ha : a.natAbs ≤ 100) (h1 : 1 ≤ b) (hb : b ≤ 100) : okD 4 (madeD a b) = true ∧ depD (madeD a b) ≤ n + 1 := by
  obtain ⟨m1, m2, _, _⟩ := made_ok2 (a := a) (b := b) (by omega) (by omega) (by omega) 4 (by omega)
  exact ⟨m1, by omega⟩
theorem Tr.two {n : Nat} {t : D} (h : Tr n t) : okD 4 t = true ∧ depD t ≤ n := ⟨h.ok, h.dep⟩
def cTr (fuel : Nat) : Ct := fun ds S Q _ => ∃ n, ds = [.obj n, .int (fuel : Nat)] ∧ Cup n S ∧ fuel ≤ 5 ∧ ∀ t S', Tr (3 * fuel + 3) t → CupR n S S' → Q t S'
theorem big4000 {m : Int} (h : m ≤ 100) : m < 2 ^ 4000 := by
  have : (100 : Int) < 2 ^ 4000 := by decide
  omega
section
variable {E : DEnds} {S : Store} {n e : Nat} {f way : Int}
abbrev trE (n : Nat) (f way : Int) : Dx.Env := [some (.obj n), some (.int f), some (.int way)]
theorem tp0 (hc : Cup n S) (hq : ∀ t S', Tr 3 t → CupR n S S' → E.rt t S') (hn : f ≠ 0 → E.nx (trE n f way) S) : fs_law_tree_0 cSome cMade cRoll E (trE n f way) S := by
  have hs := sizeLine_eq
  have z1 : ∀ k : Nat, k ≤ 100 → k ≤ sizeLine := fun k h => by omega
  have done : (∀ S, Cup n S → (∀ t S', Tr 3 t → CupR n S S' → E.rt t S') → retS (callE cSome (consF (varF 0) (consF (lstE false (consF (tupE (consF (str! "number") (consF (callE cMade (consF (binE subF (callE cRoll (consF (varF 0) (consF (int! 9) nilF))) (int! 4)) (consF (binE (addF false) (int! 1) (callE cRoll (consF (varF 0) (consF (int! 3) nilF)))) nilF))) nilF))) (consF (tupE (consF (str! "pi") nilF)) (consF (tupE (consF (str! "sqrt") (consF (tupE (consF (str! "number") (consF (tupE (consF (binE (addF false) (int! 2) (callE cRoll (consF (varF 0) (consF (int! 3) nilF)))) (consF (int! 1) nilF))) nilF))) nilF))) nilF)))) nilF))) E (trE n f way) S) := by
    intro S hc hq
    simp [seqS, setS, retS, retN, exprS, nilS, ifS, parS, asgS, bindT, bindTs, bindF, callC, varF, retF, consF, nilF, iteV, truF, truD, notF, andF, orF, andV, orV, notV, chF, chT, bodyEnds, startE, optF, idxF, slcF, intF, noF, newL, tyD, isiT, isiB, lenB, absB, intB, gcdB, tupB, lstB, ltG, leG, gtG, geG, isG, isnG, o2I, isO, getS, addF, subF, mulF, eqG_ii, neG_ii, neG_bb, fdivG, modG, powG, raiseS, wipeE, z1]
    refine ⟨n, 9, rfl, hc, by decide, big4000 (by decide), fun k1 S1 a1 a2 r1 => ?_⟩
    simp [seqS, setS, retS, retN, exprS, nilS, ifS, parS, asgS, bindT, bindTs, bindF, callC, varF, retF, consF, nilF, iteV, truF, truD, notF, andF, orF, andV, orV, notV, chF, chT, bodyEnds, startE, optF, idxF, slcF, intF, noF, newL, tyD, isiT, isiB, lenB, absB, intB, gcdB, tupB, lstB, ltG, leG, gtG, geG, isG, isnG, o2I, isO, getS, addF, subF, mulF, eqG_ii, neG_ii, neG_bb, fdivG, modG, powG, raiseS, wipeE, z1]
    refine ⟨n, 3, rfl, r1.cup, by decide, big4000 (by decide), fun k2 S2 a3 a4 r2 => ?_⟩
    simp [seqS, setS, retS, retN, exprS, nilS, ifS, parS, asgS, bindT, bindTs, bindF, callC, varF, retF, consF, nilF, iteV, truF, truD, notF, andF, orF, andV, orV, notV, chF, chT, bodyEnds, startE, optF, idxF, slcF, intF, noF, newL, tyD, isiT, isiB, lenB, absB, intB, gcdB, tupB, lstB, ltG, leG, gtG, geG, isG, isnG, o2I, isO, getS, addF, subF, mulF, eqG_ii, neG_ii, neG_bb, fdivG, modG, powG, raiseS, wipeE, z1]
    refine ⟨_, _, rfl, by omega, big4000 (by omega), ?_⟩
    simp [seqS, setS, retS, retN, exprS, nilS, ifS, parS, asgS, bindT, bindTs, bindF, callC, varF, retF, consF, nilF, iteV, truF, truD, notF, andF, orF, andV, orV, notV, chF, chT, bodyEnds, startE, optF, idxF, slcF, intF, noF, newL, tyD, isiT, isiB, lenB, absB, intB, gcdB, tupB, lstB, ltG, leG, gtG, geG, isG, isnG, o2I, isO, getS, addF, subF, mulF, eqG_ii, neG_ii, neG_bb, fdivG, modG, powG, raiseS, wipeE, z1]
    refine ⟨n, 3, rfl, r2.cup, by decide, big4000 (by decide), fun k3 S3 a5 a6 r3 => ?_⟩
    simp [seqS, setS, retS, retN, exprS, nilS, ifS, parS, asgS, bindT, bindTs, bindF, callC, varF, retF, consF, nilF, iteV, truF, truD, notF, andF, orF, andV, orV, notV, chF, chT, bodyEnds, startE, optF, idxF, slcF, intF, noF, newL, tyD, isiT, isiB, lenB, absB, intB, gcdB, tupB, lstB, ltG, leG, gtG, geG, isG, isnG, o2I, isO, getS, addF, subF, mulF, eqG_ii, neG_ii, neG_bb, fdivG, modG, powG, raiseS, wipeE, z1]
    refine ⟨n, _, rfl, r3.cup, by simp, by simp [z1], fun d S4 hd r4 => ?_⟩
    refine hq d S4 ?_ (((r1.trans r2).trans r3).trans r4)
    simp at hd
    rcases hd with rfl | rfl | rfl
    · exact tr1 (by decide +kernel) (madeT (n := 1) (by omega) (by omega) (by omega))
    · exact tr_mk (by decide +kernel) (by simp) (fun d hd => by cases hd)
    · exact tr1 (by decide +kernel) (tr1 (n := 1) (by decide +kernel) (pair_ok (n := 0) (by omega) (by omega))).two
  unfold fs_law_tree_0
  by_cases h0 : f = 0
  · subst h0
    simp only [ifS, orF, cmpT, bindF, varF, List.getElem?_cons_succ, List.getElem?_cons_zero, retF, eqG_ii, truF, truD, optF, getS, decide_true, if_true]
    exact done S hc hq
  · have e : decide (f = 0) = false := decide_eq_false h0
    simp only [ifS, orF, cmpT, bindF, varF, List.getElem?_cons_succ, List.getElem?_cons_zero, retF, eqG_ii, truF, truD, optF, getS, e, Bool.false_eq_true, if_false, ltG, o2I, if_true]
    by_cases h2 : way < 2
    · rw [if_pos (by simpa using h2)]
      exact done S hc hq
    · rw [if_neg (by simpa using h2)]
      exact hn h0
theorem tp1 (hc : Cup n S) (he : e ≤ 4) (hq : ∀ t S', Tr (3 * e + 4) t → CupR n S S' → E.rt t S') (hn : E.nx (trE n ((e : Int) + 1) way) S) : fs_law_tree_1 cSome (cTr e) E (trE n ((e : Int) + 1) way) S := by
  have hs := sizeLine_eq
  have z1 : ∀ k : Nat, k ≤ 100 → k ≤ sizeLine := fun k h => by omega
  by_cases h : way < 5
  · simp [fs_law_tree_1, seqS, setS, retS, retN, exprS, nilS, ifS, parS, asgS, bindT, bindTs, bindF, callC, varF, retF, consF, nilF, iteV, truF, truD, notF, andF, orF, andV, orV, notV, chF, chT, bodyEnds, startE, optF, idxF, slcF, intF, noF, newL, tyD, isiT, isiB, lenB, absB, intB, gcdB, tupB, lstB, ltG, leG, gtG, geG, isG, isnG, o2I, isO, getS, addF, subF, mulF, eqG_ii, neG_ii, neG_bb, fdivG, modG, powG, raiseS, wipeE, z1, h]
    refine ⟨n, _, rfl, hc, by simp, by simp [z1], fun d S1 hd r1 => ?_⟩
    refine ⟨n, rfl, r1.cup, by omega, fun t S2 ht r2 => ?_⟩
    simp at hd
    have h1 := r1.trans r2
    rcases hd with rfl | rfl | rfl | rfl | rfl <;> exact hq _ S2 (tr1 (by decide +kernel) ht.two) h1
  · simp [fs_law_tree_1, seqS, setS, retS, retN, exprS, nilS, ifS, parS, asgS, bindT, bindTs, bindF, callC, varF, retF, consF, nilF, iteV, truF, truD, notF, andF, orF, andV, orV, notV, chF, chT, bodyEnds, startE, optF, idxF, slcF, intF, noF, newL, tyD, isiT, isiB, lenB, absB, intB, gcdB, tupB, lstB, ltG, leG, gtG, geG, isG, isnG, o2I, isO, getS, addF, subF, mulF, eqG_ii, neG_ii, neG_bb, fdivG, modG, powG, raiseS, wipeE, z1, h]
    exact hn
theorem tp2 (hc : Cup n S) (he : e ≤ 4) (hq : ∀ t S', Tr (3 * e + 5) t → CupR n S S' → E.rt t S') (hn : E.nx (trE n ((e : Int) + 1) way) S) : fs_law_tree_2 cSome (cTr e) cMade cRoll E (trE n ((e : Int) + 1) way) S := by
  have hs := sizeLine_eq
  have z1 : ∀ k : Nat, k ≤ 100 → k ≤ sizeLine := fun k h => by omega
  by_cases h : way = 5
  · simp [fs_law_tree_2, seqS, setS, retS, retN, exprS, nilS, ifS, parS, asgS, bindT, bindTs, bindF, callC, varF, retF, consF, nilF, iteV, truF, truD, notF, andF, orF, andV, orV, notV, chF, chT, bodyEnds, startE, optF, idxF, slcF, intF, noF, newL, tyD, isiT, isiB, lenB, absB, intB, gcdB, tupB, lstB, ltG, leG, gtG, geG, isG, isnG, o2I, isO, getS, addF, subF, mulF, eqG_ii, neG_ii, neG_bb, fdivG, modG, powG, raiseS, wipeE, z1, h]
    refine ⟨n, rfl, hc, by omega, fun t S1 ht r1 => ?_⟩
    refine ⟨n, 5, rfl, r1.cup, by decide, big4000 (by decide), fun k1 S2 a1 a2 r2 => ?_⟩
    simp [seqS, setS, retS, retN, exprS, nilS, ifS, parS, asgS, bindT, bindTs, bindF, callC, varF, retF, consF, nilF, iteV, truF, truD, notF, andF, orF, andV, orV, notV, chF, chT, bodyEnds, startE, optF, idxF, slcF, intF, noF, newL, tyD, isiT, isiB, lenB, absB, intB, gcdB, tupB, lstB, ltG, leG, gtG, geG, isG, isnG, o2I, isO, getS, addF, subF, mulF, eqG_ii, neG_ii, neG_bb, fdivG, modG, powG, raiseS, wipeE, z1]
    refine ⟨_, _, rfl, by omega, big4000 (by omega), ?_⟩
    simp [seqS, setS, retS, retN, exprS, nilS, ifS, parS, asgS, bindT, bindTs, bindF, callC, varF, retF, consF, nilF, iteV, truF, truD, notF, andF, orF, andV, orV, notV, chF, chT, bodyEnds, startE, optF, idxF, slcF, intF, noF, newL, tyD, isiT, isiB, lenB, absB, intB, gcdB, tupB, lstB, ltG, leG, gtG, geG, isG, isnG, o2I, isO, getS, addF, subF, mulF, eqG_ii, neG_ii, neG_bb, fdivG, modG, powG, raiseS, wipeE, z1]
    refine ⟨n, _, rfl, r2.cup, by simp, by simp [z1], fun d S3 hd r3 => ?_⟩
    simp at hd
    have h1 := (r1.trans r2).trans r3
    refine hq _ S3 (tr1 (by decide +kernel) ?_) h1
    rcases hd with rfl | rfl
    · exact (tr1 (by decide +kernel) ht.two).two
    · exact ((tr1 (w := "number") (by decide +kernel) (madeT (n := 3 * e + 2) (a := k1 - 2) (b := 2) (by omega) (by omega) (by omega))).mono (by omega)).two
  · simp [fs_law_tree_2, seqS, setS, retS, retN, exprS, nilS, ifS, parS, asgS, bindT, bindTs, bindF, callC, varF, retF, consF, nilF, iteV, truF, truD, notF, andF, orF, andV, orV, notV, chF, chT, bodyEnds, startE, optF, idxF, slcF, intF, noF, newL, tyD, isiT, isiB, lenB, absB, intB, gcdB, tupB, lstB, ltG, leG, gtG, geG, isG, isnG, o2I, isO, getS, addF, subF, mulF, eqG_ii, neG_ii, neG_bb, fdivG, modG, powG, raiseS, wipeE, z1, h]
    exact hn
theorem tp3 (hc : Cup n S) (he : e ≤ 4) (hq : ∀ t S', Tr (3 * e + 6) t → CupR n S S' → E.rt t S') (hn : E.nx (trE n ((e : Int) + 1) way) S) : fs_law_tree_3 (cTr e) E (trE n ((e : Int) + 1) way) S := by
  have hs := sizeLine_eq
  have z1 : ∀ k : Nat, k ≤ 100 → k ≤ sizeLine := fun k h => by omega
  by_cases h : way = 6
  · simp [fs_law_tree_3, seqS, setS, retS, retN, exprS, nilS, ifS, parS, asgS, bindT, bindTs, bindF, callC, varF, retF, consF, nilF, iteV, truF, truD, notF, andF, orF, andV, orV, notV, chF, chT, bodyEnds, startE, optF, idxF, slcF, intF, noF, newL, tyD, isiT, isiB, lenB, absB, intB, gcdB, tupB, lstB, ltG, leG, gtG, geG, isG, isnG, o2I, isO, getS, addF, subF, mulF, eqG_ii, neG_ii, neG_bb, fdivG, modG, powG, raiseS, wipeE, z1, h]
    refine ⟨n, rfl, hc, by omega, fun t S1 ht r1 => ?_⟩
    refine hq _ S1 (tr1 (by decide +kernel) (tr2 (by decide +kernel) ?_ ?_).two) r1
    · exact ((tr1 (w := "number") (by decide +kernel) (pair_ok (n := 0) (a := 2) (b := 1) (by decide) (by decide))).mono (by omega)).two
    · exact (tr1 (by decide +kernel) ht.two).two
  · simp [fs_law_tree_3, seqS, setS, retS, retN, exprS, nilS, ifS, parS, asgS, bindT, bindTs, bindF, callC, varF, retF, consF, nilF, iteV, truF, truD, notF, andF, orF, andV, orV, notV, chF, chT, bodyEnds, startE, optF, idxF, slcF, intF, noF, newL, tyD, isiT, isiB, lenB, absB, intB, gcdB, tupB, lstB, ltG, leG, gtG, geG, isG, isnG, o2I, isO, getS, addF, subF, mulF, eqG_ii, neG_ii, neG_bb, fdivG, modG, powG, raiseS, wipeE, z1, h]
    exact hn
theorem tp4 (hc : Cup n S) (he : e ≤ 4) (hq : ∀ t S', Tr (3 * e + 4) t → CupR n S S' → E.rt t S') : fs_law_tree_4 cSome (cTr e) E (trE n ((e : Int) + 1) way) S := by
  have hs := sizeLine_eq
  have z1 : ∀ k : Nat, k ≤ 100 → k ≤ sizeLine := fun k h => by omega
  simp [fs_law_tree_4, seqS, setS, retS, retN, exprS, nilS, ifS, parS, asgS, bindT, bindTs, bindF, callC, varF, retF, consF, nilF, iteV, truF, truD, notF, andF, orF, andV, orV, notV, chF, chT, bodyEnds, startE, optF, idxF, slcF, intF, noF, newL, tyD, isiT, isiB, lenB, absB, intB, gcdB, tupB, lstB, ltG, leG, gtG, geG, isG, isnG, o2I, isO, getS, addF, subF, mulF, eqG_ii, neG_ii, neG_bb, fdivG, modG, powG, raiseS, wipeE, z1]
  refine ⟨n, _, rfl, hc, by simp, by simp [z1], fun d S1 hd r1 => ?_⟩
  refine ⟨n, rfl, r1.cup, by omega, fun t S2 ht r2 => ?_⟩
  refine ⟨n, rfl, r2.cup, by omega, fun u S3 hu r3 => ?_⟩
  simp at hd
  have h1 := (r1.trans r2).trans r3
  rcases hd with rfl | rfl | rfl <;> exact hq _ S3 (tr2 (by decide +kernel) ht.two hu.two) h1
end
theorem tree_ok (fuel : Nat) (c : Ct) (hcc : ∀ e, fuel = e + 1 → c = cTr e) (ds : List D) (S : Store) (Q : D → Store → Prop) (E : QX) (h : cTr fuel ds S Q E) : fs_law_tree cRoll cSome cMade c (bodyEnds Q E) (startE N_law_tree ds) S := by
  obtain ⟨n, rfl, hc, hf, hq⟩ := h
  simp [fs_law_tree, seqS, setS, retS, retN, exprS, nilS, ifS, parS, asgS, bindT, bindTs, bindF, callC, varF, retF, consF, nilF, iteV, truF, truD, notF, andF, orF, andV, orV, notV, chF, chT, bodyEnds, startE, optF, idxF, slcF, intF, noF, newL, tyD, isiT, isiB, lenB, absB, intB, gcdB, tupB, lstB, ltG, leG, gtG, geG, isG, isnG, o2I, isO, getS, addF, subF, mulF, eqG_ii, neG_ii, neG_bb, fdivG, modG, powG, raiseS, wipeE, N_law_tree]
  refine ⟨n, 9, rfl, hc, by decide, big4000 (by decide), fun way S1 h0 h1 r1 => ?_⟩
  refine tp0 (E := _) r1.cup (fun t S' ht r => hq t S' (ht.mono (by omega)) (r1.trans r)) fun hf0 => ?_
  obtain ⟨e, rfl⟩ : ∃ e, fuel = e + 1 := ⟨fuel - 1, by omega⟩
  rw [hcc e rfl]
  have e1 : (((e + 1 : Nat) : Int)) = (e : Int) + 1 := by omega
  rw [e1]
  have fin : ∀ t S', Tr (3 * e + 6) t → CupR n S1 S' → Q t S' := fun t S' ht r => hq t S' (ht.mono (by omega)) (r1.trans r)
  refine tp1 (E := _) r1.cup (by omega) (fun t S' ht r => fin t S' (ht.mono (by omega)) r) ?_
  refine tp2 (E := _) r1.cup (by omega) (fun t S' ht r => fin t S' (ht.mono (by omega)) r) ?_
  refine tp3 (E := _) r1.cup (by omega) (fun t S' ht r => fin t S' (ht.mono (by omega)) r) ?_
  exact tp4 (E := _) r1.cup (by omega) (fun t S' ht r => fin t S' (ht.mono (by omega)) r)
end LawX

set_option Elab.async false
set_option linter.all false
set_option maxRecDepth 100000
set_option maxHeartbeats 0
set_option exponentiation.threshold 5000
namespace LawX
open PySem PySem.Spec PyProof.Rows L2 Dx
theorem line4 {k : Int} (h0 : 0 ≤ k) (h1 : k < 5) : okD 4 (.tup [.int (-1 - k), .int 0, .int 0, .int 1]) = true ∧ depD (.tup [.int (-1 - k), .int 0, .int 0, .int 1]) ≤ 1 := by
  refine ⟨okD_tup.mpr ⟨by simp, fun d hd => ?_⟩, by simp [depD, depDs]⟩
  simp at hd
  rcases hd with rfl | rfl | rfl | rfl <;> exact (int_ok (n := 0) (by omega)).1
section
variable {E : DEnds} {S : Store} {n e : Nat} {f way : Int}
theorem up0 (hc : Cup n S) (hq : ∀ t S', Tr 3 t → CupR n S S' → E.rt t S') (hn : f ≠ 0 → E.nx (trE n f way) S) : fs_law_told_tree_0 cLFrac E (trE n f way) S := by
  have hs := sizeLine_eq
  have z1 : ∀ k : Nat, k ≤ 100 → k ≤ sizeLine := fun k h => by omega
  have done : cLFrac [.obj n] S (fun d S' => E.rt (.tup [.str "number", d]) S') (fun x S' => E.ex x (trE n f way) S') :=
    ⟨n, rfl, hc, fun a b S' b1 b2 b3 b4 r => hq _ S' ((tr1 (by decide +kernel) (madeT (n := 1) (by omega) (by omega) (by omega))).mono (by omega)) r⟩
  by_cases h0 : f = 0
  · subst h0
    simp [fs_law_told_tree_0, seqS, setS, retS, retN, exprS, nilS, ifS, parS, asgS, bindT, bindTs, bindF, callC, varF, retF, consF, nilF, iteV, truF, truD, notF, andF, orF, andV, orV, notV, chF, chT, bodyEnds, startE, optF, idxF, slcF, intF, noF, newL, tyD, isiT, isiB, lenB, absB, intB, gcdB, tupB, lstB, ltG, leG, gtG, geG, isG, isnG, o2I, isO, getS, addF, subF, mulF, eqG_ii, neG_ii, neG_bb, fdivG, modG, powG, raiseS, wipeE, z1]
    exact done
  · by_cases h2 : way = 0
    · subst h2
      simp [fs_law_told_tree_0, seqS, setS, retS, retN, exprS, nilS, ifS, parS, asgS, bindT, bindTs, bindF, callC, varF, retF, consF, nilF, iteV, truF, truD, notF, andF, orF, andV, orV, notV, chF, chT, bodyEnds, startE, optF, idxF, slcF, intF, noF, newL, tyD, isiT, isiB, lenB, absB, intB, gcdB, tupB, lstB, ltG, leG, gtG, geG, isG, isnG, o2I, isO, getS, addF, subF, mulF, eqG_ii, neG_ii, neG_bb, fdivG, modG, powG, raiseS, wipeE, z1, h0]
      exact done
    · simp [fs_law_told_tree_0, seqS, setS, retS, retN, exprS, nilS, ifS, parS, asgS, bindT, bindTs, bindF, callC, varF, retF, consF, nilF, iteV, truF, truD, notF, andF, orF, andV, orV, notV, chF, chT, bodyEnds, startE, optF, idxF, slcF, intF, noF, newL, tyD, isiT, isiB, lenB, absB, intB, gcdB, tupB, lstB, ltG, leG, gtG, geG, isG, isnG, o2I, isO, getS, addF, subF, mulF, eqG_ii, neG_ii, neG_bb, fdivG, modG, powG, raiseS, wipeE, z1, h0, h2]
      exact hn h0
theorem up1 (hc : Cup n S) (hq : ∀ t S', Tr 3 t → CupR n S S' → E.rt t S') (hn : E.nx (trE n f way) S) : fs_law_told_tree_1 cRoll E (trE n f way) S := by
  have hs := sizeLine_eq
  have z1 : ∀ k : Nat, k ≤ 100 → k ≤ sizeLine := fun k h => by omega
  by_cases h : way = 1
  · simp [fs_law_told_tree_1, seqS, setS, retS, retN, exprS, nilS, ifS, parS, asgS, bindT, bindTs, bindF, callC, varF, retF, consF, nilF, iteV, truF, truD, notF, andF, orF, andV, orV, notV, chF, chT, bodyEnds, startE, optF, idxF, slcF, intF, noF, newL, tyD, isiT, isiB, lenB, absB, intB, gcdB, tupB, lstB, ltG, leG, gtG, geG, isG, isnG, o2I, isO, getS, addF, subF, mulF, eqG_ii, neG_ii, neG_bb, fdivG, modG, powG, raiseS, wipeE, z1, h]
    refine ⟨n, 9, rfl, hc, by decide, big4000 (by decide), fun k1 S1 a1 a2 r1 => ?_⟩
    simp [seqS, setS, retS, retN, exprS, nilS, ifS, parS, asgS, bindT, bindTs, bindF, callC, varF, retF, consF, nilF, iteV, truF, truD, notF, andF, orF, andV, orV, notV, chF, chT, bodyEnds, startE, optF, idxF, slcF, intF, noF, newL, tyD, isiT, isiB, lenB, absB, intB, gcdB, tupB, lstB, ltG, leG, gtG, geG, isG, isnG, o2I, isO, getS, addF, subF, mulF, eqG_ii, neG_ii, neG_bb, fdivG, modG, powG, raiseS, wipeE, z1]
    exact hq _ S1 (tr1 (by decide +kernel) (tr1 (n := 1) (by decide +kernel) (pair_ok (n := 0) (by omega) (by omega))).two) r1
  · simp [fs_law_told_tree_1, seqS, setS, retS, retN, exprS, nilS, ifS, parS, asgS, bindT, bindTs, bindF, callC, varF, retF, consF, nilF, iteV, truF, truD, notF, andF, orF, andV, orV, notV, chF, chT, bodyEnds, startE, optF, idxF, slcF, intF, noF, newL, tyD, isiT, isiB, lenB, absB, intB, gcdB, tupB, lstB, ltG, leG, gtG, geG, isG, isnG, o2I, isO, getS, addF, subF, mulF, eqG_ii, neG_ii, neG_bb, fdivG, modG, powG, raiseS, wipeE, z1, h]
    exact hn
theorem up2 (hc : Cup n S) (hq : ∀ t S', Tr 3 t → CupR n S S' → E.rt t S') (hn : E.nx (trE n f way) S) : fs_law_told_tree_2 cRoll E (trE n f way) S := by
  have hs := sizeLine_eq
  have z1 : ∀ k : Nat, k ≤ 100 → k ≤ sizeLine := fun k h => by omega
  by_cases h : way = 2
  · simp [fs_law_told_tree_2, seqS, setS, retS, retN, exprS, nilS, ifS, parS, asgS, bindT, bindTs, bindF, callC, varF, retF, consF, nilF, iteV, truF, truD, notF, andF, orF, andV, orV, notV, chF, chT, bodyEnds, startE, optF, idxF, slcF, intF, noF, newL, tyD, isiT, isiB, lenB, absB, intB, gcdB, tupB, lstB, ltG, leG, gtG, geG, isG, isnG, o2I, isO, getS, addF, subF, mulF, eqG_ii, neG_ii, neG_bb, fdivG, modG, powG, raiseS, wipeE, z1, h]
    refine ⟨n, 5, rfl, hc, by decide, big4000 (by decide), fun k1 S1 a1 a2 r1 => ?_⟩
    simp [seqS, setS, retS, retN, exprS, nilS, ifS, parS, asgS, bindT, bindTs, bindF, callC, varF, retF, consF, nilF, iteV, truF, truD, notF, andF, orF, andV, orV, notV, chF, chT, bodyEnds, startE, optF, idxF, slcF, intF, noF, newL, tyD, isiT, isiB, lenB, absB, intB, gcdB, tupB, lstB, ltG, leG, gtG, geG, isG, isnG, o2I, isO, getS, addF, subF, mulF, eqG_ii, neG_ii, neG_bb, fdivG, modG, powG, raiseS, wipeE, z1]
    obtain ⟨l1, l2⟩ := line4 a1 a2
    exact hq _ S1 ((tr2 (by decide +kernel) ⟨l1, l2⟩ (int_ok (by omega))).mono (by omega)) r1
  · simp [fs_law_told_tree_2, seqS, setS, retS, retN, exprS, nilS, ifS, parS, asgS, bindT, bindTs, bindF, callC, varF, retF, consF, nilF, iteV, truF, truD, notF, andF, orF, andV, orV, notV, chF, chT, bodyEnds, startE, optF, idxF, slcF, intF, noF, newL, tyD, isiT, isiB, lenB, absB, intB, gcdB, tupB, lstB, ltG, leG, gtG, geG, isG, isnG, o2I, isO, getS, addF, subF, mulF, eqG_ii, neG_ii, neG_bb, fdivG, modG, powG, raiseS, wipeE, z1, h]
    exact hn
theorem up3 (hc : Cup n S) (he : e ≤ 4) (hq : ∀ t S', Tr (3 * e + 4) t → CupR n S S' → E.rt t S') (hn : E.nx (trE n ((e : Int) + 1) way) S) : fs_law_told_tree_3 cSome (cTr e) E (trE n ((e : Int) + 1) way) S := by
  have hs := sizeLine_eq
  have z1 : ∀ k : Nat, k ≤ 100 → k ≤ sizeLine := fun k h => by omega
  by_cases h : way = 3
  · simp [fs_law_told_tree_3, seqS, setS, retS, retN, exprS, nilS, ifS, parS, asgS, bindT, bindTs, bindF, callC, varF, retF, consF, nilF, iteV, truF, truD, notF, andF, orF, andV, orV, notV, chF, chT, bodyEnds, startE, optF, idxF, slcF, intF, noF, newL, tyD, isiT, isiB, lenB, absB, intB, gcdB, tupB, lstB, ltG, leG, gtG, geG, isG, isnG, o2I, isO, getS, addF, subF, mulF, eqG_ii, neG_ii, neG_bb, fdivG, modG, powG, raiseS, wipeE, z1, h]
    refine ⟨n, _, rfl, hc, by simp, by simp [z1], fun d S1 hd r1 => ?_⟩
    refine ⟨n, rfl, r1.cup, by omega, fun t S2 ht r2 => ?_⟩
    simp at hd
    have h1 := r1.trans r2
    rcases hd with rfl | rfl <;> exact hq _ S2 (tr1 (by decide +kernel) ht.two) h1
  · simp [fs_law_told_tree_3, seqS, setS, retS, retN, exprS, nilS, ifS, parS, asgS, bindT, bindTs, bindF, callC, varF, retF, consF, nilF, iteV, truF, truD, notF, andF, orF, andV, orV, notV, chF, chT, bodyEnds, startE, optF, idxF, slcF, intF, noF, newL, tyD, isiT, isiB, lenB, absB, intB, gcdB, tupB, lstB, ltG, leG, gtG, geG, isG, isnG, o2I, isO, getS, addF, subF, mulF, eqG_ii, neG_ii, neG_bb, fdivG, modG, powG, raiseS, wipeE, z1, h]
    exact hn
theorem up4 (hc : Cup n S) (he : e ≤ 4) (hq : ∀ t S', Tr (3 * e + 4) t → CupR n S S' → E.rt t S') (hn : E.nx (trE n ((e : Int) + 1) way) S) : fs_law_told_tree_4 (cTr e) cRoll E (trE n ((e : Int) + 1) way) S := by
  have hs := sizeLine_eq
  have z1 : ∀ k : Nat, k ≤ 100 → k ≤ sizeLine := fun k h => by omega
  by_cases h : way = 4
  · simp [fs_law_told_tree_4, seqS, setS, retS, retN, exprS, nilS, ifS, parS, asgS, bindT, bindTs, bindF, callC, varF, retF, consF, nilF, iteV, truF, truD, notF, andF, orF, andV, orV, notV, chF, chT, bodyEnds, startE, optF, idxF, slcF, intF, noF, newL, tyD, isiT, isiB, lenB, absB, intB, gcdB, tupB, lstB, ltG, leG, gtG, geG, isG, isnG, o2I, isO, getS, addF, subF, mulF, eqG_ii, neG_ii, neG_bb, fdivG, modG, powG, raiseS, wipeE, z1, h]
    refine ⟨n, rfl, hc, by omega, fun t S1 ht r1 => ?_⟩
    refine ⟨n, 4, rfl, r1.cup, by decide, big4000 (by decide), fun k1 S2 a1 a2 r2 => ?_⟩
    simp [seqS, setS, retS, retN, exprS, nilS, ifS, parS, asgS, bindT, bindTs, bindF, callC, varF, retF, consF, nilF, iteV, truF, truD, notF, andF, orF, andV, orV, notV, chF, chT, bodyEnds, startE, optF, idxF, slcF, intF, noF, newL, tyD, isiT, isiB, lenB, absB, intB, gcdB, tupB, lstB, ltG, leG, gtG, geG, isG, isnG, o2I, isO, getS, addF, subF, mulF, eqG_ii, neG_ii, neG_bb, fdivG, modG, powG, raiseS, wipeE, z1]
    exact hq _ S2 (tr2 (by decide +kernel) ht.two (int_ok (by omega))) (r1.trans r2)
  · simp [fs_law_told_tree_4, seqS, setS, retS, retN, exprS, nilS, ifS, parS, asgS, bindT, bindTs, bindF, callC, varF, retF, consF, nilF, iteV, truF, truD, notF, andF, orF, andV, orV, notV, chF, chT, bodyEnds, startE, optF, idxF, slcF, intF, noF, newL, tyD, isiT, isiB, lenB, absB, intB, gcdB, tupB, lstB, ltG, leG, gtG, geG, isG, isnG, o2I, isO, getS, addF, subF, mulF, eqG_ii, neG_ii, neG_bb, fdivG, modG, powG, raiseS, wipeE, z1, h]
    exact hn
theorem up5 (hc : Cup n S) (he : e ≤ 4) (hq : ∀ t S', Tr (3 * e + 4) t → CupR n S S' → E.rt t S') (hn : E.nx (trE n ((e : Int) + 1) way) S) : fs_law_told_tree_5 (cTr e) cRoll E (trE n ((e : Int) + 1) way) S := by
  have hs := sizeLine_eq
  have z1 : ∀ k : Nat, k ≤ 100 → k ≤ sizeLine := fun k h => by omega
  by_cases h : way = 5
  · simp [fs_law_told_tree_5, seqS, setS, retS, retN, exprS, nilS, ifS, parS, asgS, bindT, bindTs, bindF, callC, varF, retF, consF, nilF, iteV, truF, truD, notF, andF, orF, andV, orV, notV, chF, chT, bodyEnds, startE, optF, idxF, slcF, intF, noF, newL, tyD, isiT, isiB, lenB, absB, intB, gcdB, tupB, lstB, ltG, leG, gtG, geG, isG, isnG, o2I, isO, getS, addF, subF, mulF, eqG_ii, neG_ii, neG_bb, fdivG, modG, powG, raiseS, wipeE, z1, h]
    refine ⟨n, rfl, hc, by omega, fun t S1 ht r1 => ?_⟩
    refine ⟨n, 4, rfl, r1.cup, by decide, big4000 (by decide), fun k1 S2 a1 a2 r2 => ?_⟩
    simp [seqS, setS, retS, retN, exprS, nilS, ifS, parS, asgS, bindT, bindTs, bindF, callC, varF, retF, consF, nilF, iteV, truF, truD, notF, andF, orF, andV, orV, notV, chF, chT, bodyEnds, startE, optF, idxF, slcF, intF, noF, newL, tyD, isiT, isiB, lenB, absB, intB, gcdB, tupB, lstB, ltG, leG, gtG, geG, isG, isnG, o2I, isO, getS, addF, subF, mulF, eqG_ii, neG_ii, neG_bb, fdivG, modG, powG, raiseS, wipeE, z1]
    exact hq _ S2 (tr2 (by decide +kernel) ht.two ((tr1 (w := "number") (by decide +kernel) (pair_ok (n := 0) (by omega) (by omega))).mono (by omega)).two) (r1.trans r2)
  · simp [fs_law_told_tree_5, seqS, setS, retS, retN, exprS, nilS, ifS, parS, asgS, bindT, bindTs, bindF, callC, varF, retF, consF, nilF, iteV, truF, truD, notF, andF, orF, andV, orV, notV, chF, chT, bodyEnds, startE, optF, idxF, slcF, intF, noF, newL, tyD, isiT, isiB, lenB, absB, intB, gcdB, tupB, lstB, ltG, leG, gtG, geG, isG, isnG, o2I, isO, getS, addF, subF, mulF, eqG_ii, neG_ii, neG_bb, fdivG, modG, powG, raiseS, wipeE, z1, h]
    exact hn
theorem up6 (hc : Cup n S) (he : e ≤ 4) (hq : ∀ t S', Tr (3 * e + 4) t → CupR n S S' → E.rt t S') : fs_law_told_tree_6 cSome (cTr e) E (trE n ((e : Int) + 1) way) S := by
  have hs := sizeLine_eq
  have z1 : ∀ k : Nat, k ≤ 100 → k ≤ sizeLine := fun k h => by omega
  simp [fs_law_told_tree_6, seqS, setS, retS, retN, exprS, nilS, ifS, parS, asgS, bindT, bindTs, bindF, callC, varF, retF, consF, nilF, iteV, truF, truD, notF, andF, orF, andV, orV, notV, chF, chT, bodyEnds, startE, optF, idxF, slcF, intF, noF, newL, tyD, isiT, isiB, lenB, absB, intB, gcdB, tupB, lstB, ltG, leG, gtG, geG, isG, isnG, o2I, isO, getS, addF, subF, mulF, eqG_ii, neG_ii, neG_bb, fdivG, modG, powG, raiseS, wipeE, z1]
  refine ⟨n, _, rfl, hc, by simp, by simp [z1], fun d S1 hd r1 => ?_⟩
  refine ⟨n, rfl, r1.cup, by omega, fun t S2 ht r2 => ?_⟩
  refine ⟨n, rfl, r2.cup, by omega, fun u S3 hu r3 => ?_⟩
  simp at hd
  have h1 := (r1.trans r2).trans r3
  rcases hd with rfl | rfl | rfl | rfl | rfl <;> exact hq _ S3 (tr2 (by decide +kernel) ht.two hu.two) h1
end
theorem ttree_ok (fuel : Nat) (c : Ct) (hcc : ∀ e, fuel = e + 1 → c = cTr e) (ds : List D) (S : Store) (Q : D → Store → Prop) (E : QX) (h : cTr fuel ds S Q E) : fs_law_told_tree cRoll cLFrac c cSome (bodyEnds Q E) (startE N_law_told_tree ds) S := by
  obtain ⟨n, rfl, hc, hf, hq⟩ := h
  simp [fs_law_told_tree, seqS, setS, retS, retN, exprS, nilS, ifS, parS, asgS, bindT, bindTs, bindF, callC, varF, retF, consF, nilF, iteV, truF, truD, notF, andF, orF, andV, orV, notV, chF, chT, bodyEnds, startE, optF, idxF, slcF, intF, noF, newL, tyD, isiT, isiB, lenB, absB, intB, gcdB, tupB, lstB, ltG, leG, gtG, geG, isG, isnG, o2I, isO, getS, addF, subF, mulF, eqG_ii, neG_ii, neG_bb, fdivG, modG, powG, raiseS, wipeE, N_law_told_tree]
  refine ⟨n, 8, rfl, hc, by decide, big4000 (by decide), fun way S1 h0 h1 r1 => ?_⟩
  refine up0 (E := _) r1.cup (fun t S' ht r => hq t S' (ht.mono (by omega)) (r1.trans r)) fun hf0 => ?_
  obtain ⟨e, rfl⟩ : ∃ e, fuel = e + 1 := ⟨fuel - 1, by omega⟩
  rw [hcc e rfl]
  have e1 : (((e + 1 : Nat) : Int)) = (e : Int) + 1 := by omega
  rw [e1]
  have fin : ∀ t S', Tr (3 * e + 6) t → CupR n S1 S' → Q t S' := fun t S' ht r => hq t S' (ht.mono (by omega)) (r1.trans r)
  refine up1 (E := _) r1.cup (fun t S' ht r => fin t S' (ht.mono (by omega)) r) ?_
  refine up2 (E := _) r1.cup (fun t S' ht r => fin t S' (ht.mono (by omega)) r) ?_
  refine up3 (E := _) r1.cup (by omega) (fun t S' ht r => fin t S' (ht.mono (by omega)) r) ?_
  refine up4 (E := _) r1.cup (by omega) (fun t S' ht r => fin t S' (ht.mono (by omega)) r) ?_
  refine up5 (E := _) r1.cup (by omega) (fun t S' ht r => fin t S' (ht.mono (by omega)) r) ?_
  exact up6 (E := _) r1.cup (by omega) (fun t S' ht r => fin t S' (ht.mono (by omega)) r)
end LawX

set_option Elab.async false
set_option linter.all false
set_option maxRecDepth 100000
set_option maxHeartbeats 0
set_option exponentiation.threshold 5000
namespace LawX
open PySem PySem.Spec PyProof.Rows L2 Dx
def un (w : Str) (a : D) : D := .tup [.str w, a]
def bi (w : Str) (a b : D) : D := .tup [.str w, a, b]
def itD (f : D → D) : Nat → D → D
  | 0, t => t
  | n + 1, t => f (itD f n t)
def xD : D := .tup [.str "unknown"]
def minusD (n : Nat) (t : D) : D := itD (un "minus") n t
def plusD (n : Nat) (t : D) : D := itD (fun t => bi "plus" t t) n t
def twoD : D := .tup [.str "number", .tup [.int 2, .int 1]]
def areaD (t p q : D) : D := .tup [.str "area", t, p, q]
def fr (a b : Int) : D := .tup [.int a, .int b]
def pr (v : D) (b : Bool) : D := .tup [v, .bl b]
def bodyG (P X : D) : D := bi "times" P (bi "plus" (un "minus" X) (bi "plus" (un "minus" X) (un "minus" X)))
def lessG (P X : D) : D := bi "times" P (bi "plus" (un "minus" X) (bi "plus" (un "minus" X) X))
def lotsH (X H K B : D) : List D := [pr H true, pr (un "sin" H) false, pr B true, pr (un "sin" B) false, pr (bi "plus" B X) false, pr K true]
def rowsH (B L H K : D) : List D := [pr (areaD B (fr 0 1) (fr 1 1)) false, pr (areaD L (fr 0 1) (fr 1 1)) true, pr (areaD H (fr 0 1) (fr 1 1)) false, pr (areaD K (fr 0 1) (fr 1 1)) true]
def rows2G (X : D) : List D := [pr (areaD X (fr (-17) 2) (fr 0 1)) false, pr (areaD X (fr 0 1) (fr (-17) 2)) false, pr (areaD X (fr 17 2) (fr 0 1)) false]
def kD : D := minusD 10 xD
def pD : D := plusD 4 xD
def lotsL : List D := lotsH xD (un "minus" kD) kD (bodyG pD xD)
def rowsL : List D := rowsH (bodyG pD xD) (lessG pD xD) (un "minus" kD) kD ++ rows2G xD
def algL : List D := [un "log" twoD, areaD xD (fr 0 1) (fr 1 1), bi "plus" twoD (un "log" twoD), un "sqrt" twoD]
/-- a row: a value, what is due -/
def chk (f : Bool) : D → Bool
  | .tup [v, .bl b] => okD 100 v && (treeB f v == b)
  | _ => false
theorem lots_ok : ∀ d ∈ lotsL, chk true d = true := by decide +kernel
theorem rowsI_ok : ∀ d ∈ rowsL, chk false d = true := by decide +kernel
theorem alg_rows : ∀ d ∈ algL, okD 100 d = true ∧ treeB false d = true := by decide +kernel
theorem alg_vals : algL.map (fun d => (partsL 12 d).all toldP) = [false, false, false, true] := by decide +kernel
abbrev irE (x h b t lo le ro tw ow du rw : Option D) : Dx.Env := [x, h, b, t, lo, le, ro, tw, ow, du, rw]
section
variable {E : DEnds} {S : Store} {x h b t lo le ro tw ow du rw : Option D}
theorem ir0 (hn : E.nx (irE (some xD) (some xD) (some xD) t lo le ro tw ow du rw) S) : fs_law_integrands_right_0 E (irE x h b t lo le ro tw ow du rw) S := by
  have hs := sizeLine_eq
  have z1 : ∀ k : Nat, k ≤ 100 → k ≤ sizeLine := fun k h => by omega
  simp [fs_law_integrands_right_0, seqS, setS, retS, retN, exprS, nilS, ifS, parS, asgS, bindT, bindTs, bindF, callC, varF, retF, consF, nilF, iteV, truF, truD, notF, andF, orF, andV, orV, notV, chF, chT, bodyEnds, startE, optF, idxF, slcF, intF, noF, newL, tyD, isiT, isiB, lenB, absB, intB, gcdB, tupB, lstB, ltG, leG, gtG, geG, isG, isnG, o2I, isO, getS, addF, subF, mulF, eqG_ii, neG_ii, neG_bb, fdivG, modG, powG, raiseS, wipeE, z1]
  exact hn
theorem ir1 {X P : D} (hn : E.nx (irE (some X) h (some (bodyG P X)) t lo le ro tw ow du rw) S) : fs_law_integrands_right_1 E (irE (some X) h (some P) t lo le ro tw ow du rw) S := by
  have hs := sizeLine_eq
  have z1 : ∀ k : Nat, k ≤ 100 → k ≤ sizeLine := fun k h => by omega
  simp [fs_law_integrands_right_1, seqS, setS, retS, retN, exprS, nilS, ifS, parS, asgS, bindT, bindTs, bindF, callC, varF, retF, consF, nilF, iteV, truF, truD, notF, andF, orF, andV, orV, notV, chF, chT, bodyEnds, startE, optF, idxF, slcF, intF, noF, newL, tyD, isiT, isiB, lenB, absB, intB, gcdB, tupB, lstB, ltG, leG, gtG, geG, isG, isnG, o2I, isO, getS, addF, subF, mulF, eqG_ii, neG_ii, neG_bb, fdivG, modG, powG, raiseS, wipeE, z1]
  exact hn
theorem ir2 {X H K B : D} (hH : ∀ (τ : Dx.Env) (S : Store) (Q : D → Store → Prop) (E : QX), idxF H (.int 1) τ S Q E = Q K S) (hn : E.nx (irE (some X) (some H) (some B) t (some (.lst (lotsH X H K B))) le ro tw ow du rw) S) : fs_law_integrands_right_2 E (irE (some X) (some H) (some B) t lo le ro tw ow du rw) S := by
  have hs := sizeLine_eq
  have z1 : ∀ k : Nat, k ≤ 100 → k ≤ sizeLine := fun k h => by omega
  unfold fs_law_integrands_right_2
  refine ⟨z1 _ (by simp), z1 _ (by simp), z1 _ (by simp), z1 _ (by simp), z1 _ (by simp), z1 _ (by simp), z1 _ (by simp), z1 _ (by simp), ?_⟩
  simp only [bindF, consF, varF, retF, nilF, List.getElem?_cons_succ, List.getElem?_cons_zero, hH]
  exact ⟨z1 _ (by simp), z1 _ (by simp), hn⟩
theorem chk_form {f : Bool} {d : D} (h : chk f d = true) : ∃ v b, d = .tup [v, .bl b] ∧ okD 100 v = true ∧ treeB f v = b := by
  unfold chk at h
  split at h
  · rename_i v b
    simp at h
    exact ⟨v, b, rfl, h.1, h.2⟩
  · cases h
theorem none_left {ds : List D} : (ds.filter fun _ => false).map (id : D → D) = [] := by simp
theorem ir3 (hn : E.nx (irE x h b t (some (.lst lotsL)) le ro tw ow du rw) S) : fs_law_integrands_right_3 (cTreeF true) E (irE x h b t (some (.lst lotsL)) le ro tw ow du rw) S := by
  have hs := sizeLine_eq
  have z1 : ∀ k : Nat, k ≤ 100 → k ≤ sizeLine := fun k h => by omega
  simp only [fs_law_integrands_right_3, ifS, cmpT, bindF]
  refine compF_val lotsL (fun _ => True) (fun _ => false) id (fun Q h => ?_) trivial (z1 _ (by decide)) (fun d hd => ?_) ?_
  · simp [seqS, setS, retS, retN, exprS, nilS, ifS, parS, asgS, bindT, bindTs, bindF, callC, varF, retF, consF, nilF, iteV, truF, truD, notF, andF, orF, andV, orV, notV, chF, chT, bodyEnds, startE, optF, idxF, slcF, intF, noF, newL, tyD, isiT, isiB, lenB, absB, intB, gcdB, tupB, lstB, ltG, leG, gtG, geG, isG, isnG, o2I, isO, getS, addF, subF, mulF, eqG_ii, neG_ii, neG_bb, fdivG, modG, powG, raiseS, wipeE, itsF]; exact h
  · obtain ⟨v, bb, rfl, h1, h2⟩ := chk_form (lots_ok d hd)
    refine ⟨irE x h b t (some (.lst lotsL)) le ro tw (some v) (some (.bl bb)) rw, rfl, fun Q h => ?_, fun h => by cases h⟩
    simp [seqS, setS, retS, retN, exprS, nilS, ifS, parS, asgS, bindT, bindTs, bindF, callC, varF, retF, consF, nilF, iteV, truF, truD, notF, andF, orF, andV, orV, notV, chF, chT, bodyEnds, startE, optF, idxF, slcF, intF, noF, newL, tyD, isiT, isiB, lenB, absB, intB, gcdB, tupB, lstB, ltG, leG, gtG, geG, isG, isnG, o2I, isO, getS, addF, subF, mulF, eqG_ii, neG_ii, neG_bb, fdivG, modG, powG, raiseS, wipeE]
    refine ⟨v, 100, rfl, h1, by omega, ?_⟩
    simp [seqS, setS, retS, retN, exprS, nilS, ifS, parS, asgS, bindT, bindTs, bindF, callC, varF, retF, consF, nilF, iteV, truF, truD, notF, andF, orF, andV, orV, notV, chF, chT, bodyEnds, startE, optF, idxF, slcF, intF, noF, newL, tyD, isiT, isiB, lenB, absB, intB, gcdB, tupB, lstB, ltG, leG, gtG, geG, isG, isnG, o2I, isO, getS, addF, subF, mulF, eqG_ii, neG_ii, neG_bb, fdivG, modG, powG, raiseS, wipeE, h2]
    exact h
  · rw [none_left]
    simp [seqS, setS, retS, retN, exprS, nilS, ifS, parS, asgS, bindT, bindTs, bindF, callC, varF, retF, consF, nilF, iteV, truF, truD, notF, andF, orF, andV, orV, notV, chF, chT, bodyEnds, startE, optF, idxF, slcF, intF, noF, newL, tyD, isiT, isiB, lenB, absB, intB, gcdB, tupB, lstB, ltG, leG, gtG, geG, isG, isnG, o2I, isO, getS, addF, subF, mulF, eqG_ii, neG_ii, neG_bb, fdivG, modG, powG, raiseS, wipeE]
    refine neG_of rfl rfl (by simp [depD, depDs]) (by simp [depD, depDs]) ?_
    simp [eqD, eqDs]
    exact hn
theorem ir4 {X P B : D} (hB : ∀ (τ : Dx.Env) (S : Store) (Q : D → Store → Prop) (E : QX), idxF B (.int 1) τ S Q E = Q P S) (hn : E.nx (irE (some X) h (some B) t lo (some (lessG P X)) ro tw ow du rw) S) : fs_law_integrands_right_4 E (irE (some X) h (some B) t lo le ro tw ow du rw) S := by
  have hs := sizeLine_eq
  have z1 : ∀ k : Nat, k ≤ 100 → k ≤ sizeLine := fun k h => by omega
  unfold fs_law_integrands_right_4
  simp only [setS, bindF, consF, varF, retF, nilF, List.getElem?_cons_succ, List.getElem?_cons_zero, hB]
  exact ⟨z1 _ (by simp), z1 _ (by simp), z1 _ (by simp), z1 _ (by simp), z1 _ (by simp), hn⟩
theorem ir5 {X H K B L : D} (hH : ∀ (τ : Dx.Env) (S : Store) (Q : D → Store → Prop) (E : QX), idxF H (.int 1) τ S Q E = Q K S) (hn : E.nx (irE (some X) (some H) (some B) t lo (some L) (some (.lst (rowsH B L H K))) tw ow du rw) S) : fs_law_integrands_right_5 E (irE (some X) (some H) (some B) t lo (some L) ro tw ow du rw) S := by
  have hs := sizeLine_eq
  have z1 : ∀ k : Nat, k ≤ 100 → k ≤ sizeLine := fun k h => by omega
  unfold fs_law_integrands_right_5
  refine ⟨z1 _ (by simp), z1 _ (by simp), z1 _ (by simp), z1 _ (by simp), z1 _ (by simp), z1 _ (by simp), z1 _ (by simp), z1 _ (by simp), z1 _ (by simp), z1 _ (by simp), z1 _ (by simp), z1 _ (by simp), ?_⟩
  simp only [setS, bindF, consF, varF, retF, nilF, List.getElem?_cons_succ, List.getElem?_cons_zero, hH]
  exact ⟨z1 _ (by simp), z1 _ (by simp), z1 _ (by simp), z1 _ (by simp), z1 _ (by simp), hn⟩
theorem un_idx {w : Str} {a : D} (τ : Dx.Env) (S : Store) (Q : D → Store → Prop) (E : QX) : idxF (un w a) (.int 1) τ S Q E = Q a S := by simp [un, idxF, getS, i1]
theorem bi_idx {w : Str} {a b : D} (τ : Dx.Env) (S : Store) (Q : D → Store → Prop) (E : QX) : idxF (bi w a b) (.int 1) τ S Q E = Q a S := by simp [bi, idxF, getS, i1]
theorem ir6 {X : D} {r1 : List D} (hl : r1.length + 3 ≤ sizeLine) (hn : E.nx (irE (some X) h b t lo le (some (.lst (r1 ++ rows2G X))) tw ow du rw) S) : fs_law_integrands_right_6 E (irE (some X) h b t lo le (some (.lst r1)) tw ow du rw) S := by
  have hs := sizeLine_eq
  have z1 : ∀ k : Nat, k ≤ 100 → k ≤ sizeLine := fun k h => by omega
  simp [fs_law_integrands_right_6, seqS, setS, retS, retN, exprS, nilS, ifS, parS, asgS, bindT, bindTs, bindF, callC, varF, retF, consF, nilF, iteV, truF, truD, notF, andF, orF, andV, orV, notV, chF, chT, bodyEnds, startE, optF, idxF, slcF, intF, noF, newL, tyD, isiT, isiB, lenB, absB, intB, gcdB, tupB, lstB, ltG, leG, gtG, geG, isG, isnG, o2I, isO, getS, addF, subF, mulF, eqG_ii, neG_ii, neG_bb, fdivG, modG, powG, raiseS, wipeE, z1, hl]
  exact hn
theorem ir7 (hn : E.nx (irE (some xD) h b t lo le ro (some twoD) ow du rw) S) : fs_law_integrands_right_7 cAlg E (irE (some xD) h b t lo le ro (some twoD) ow du rw) S := by
  have hs := sizeLine_eq
  have z1 : ∀ k : Nat, k ≤ 100 → k ≤ sizeLine := fun k h => by omega
  simp only [fs_law_integrands_right_7, ifS, cmpT, bindF]
  refine compF_val algL (fun _ => True) (fun _ => true) (fun d => .bl ((partsL 12 d).all toldP)) (fun Q h => ?_) trivial (z1 _ (by decide)) (fun d hd => ⟨irE (some xD) h b t lo le ro (some twoD) (some d) du rw, rfl, fun Q h => h, fun _ Q h => ?_⟩) ?_
  · simp [seqS, setS, retS, retN, exprS, nilS, ifS, parS, asgS, bindT, bindTs, bindF, callC, varF, retF, consF, nilF, iteV, truF, truD, notF, andF, orF, andV, orV, notV, chF, chT, bodyEnds, startE, optF, idxF, slcF, intF, noF, newL, tyD, isiT, isiB, lenB, absB, intB, gcdB, tupB, lstB, ltG, leG, gtG, geG, isG, isnG, o2I, isO, getS, addF, subF, mulF, eqG_ii, neG_ii, neG_bb, fdivG, modG, powG, raiseS, wipeE, itsF, z1]; exact h
  · obtain ⟨h1, h2⟩ := alg_rows d hd
    simp [seqS, setS, retS, retN, exprS, nilS, ifS, parS, asgS, bindT, bindTs, bindF, callC, varF, retF, consF, nilF, iteV, truF, truD, notF, andF, orF, andV, orV, notV, chF, chT, bodyEnds, startE, optF, idxF, slcF, intF, noF, newL, tyD, isiT, isiB, lenB, absB, intB, gcdB, tupB, lstB, ltG, leG, gtG, geG, isG, isnG, o2I, isO, getS, addF, subF, mulF, eqG_ii, neG_ii, neG_bb, fdivG, modG, powG, raiseS, wipeE]
    refine ⟨d, 100, rfl, h1, by omega, ?_⟩
    rw [if_pos h2]
    exact h
  · have e : (algL.filter fun _ => true).map (fun d => D.bl ((partsL 12 d).all toldP)) = [.bl false, .bl false, .bl false, .bl true] := by
      have e1 : algL.filter (fun _ => true) = algL := by simp
      rw [e1]
      have e2 : algL.map (fun d => D.bl ((partsL 12 d).all toldP)) = (algL.map (fun d => (partsL 12 d).all toldP)).map D.bl := by simp
      rw [e2, alg_vals]
      rfl
    rw [e]
    simp [seqS, setS, retS, retN, exprS, nilS, ifS, parS, asgS, bindT, bindTs, bindF, callC, varF, retF, consF, nilF, iteV, truF, truD, notF, andF, orF, andV, orV, notV, chF, chT, bodyEnds, startE, optF, idxF, slcF, intF, noF, newL, tyD, isiT, isiB, lenB, absB, intB, gcdB, tupB, lstB, ltG, leG, gtG, geG, isG, isnG, o2I, isO, getS, addF, subF, mulF, eqG_ii, neG_ii, neG_bb, fdivG, modG, powG, raiseS, wipeE, z1]
    refine neG_of rfl rfl (by simp [depD, depDs]) (by simp [depD, depDs]) ?_
    simp [eqD, eqDs]
    exact hn
theorem ir8 {Q : D → Store → Prop} (he : E.rt = Q) (hq : Q (.bl true) S) : fs_law_integrands_right_8 (cTreeF false) E (irE x h b t lo le (some (.lst rowsL)) tw ow du rw) S := by
  have hs := sizeLine_eq
  have z1 : ∀ k : Nat, k ≤ 100 → k ≤ sizeLine := fun k h => by omega
  simp only [fs_law_integrands_right_8, retS, binE, bindF]
  refine compF_val rowsL (fun _ => True) (fun _ => false) id (fun Q h => ?_) trivial (z1 _ (by decide)) (fun d hd => ?_) ?_
  · simp [seqS, setS, retS, retN, exprS, nilS, ifS, parS, asgS, bindT, bindTs, bindF, callC, varF, retF, consF, nilF, iteV, truF, truD, notF, andF, orF, andV, orV, notV, chF, chT, bodyEnds, startE, optF, idxF, slcF, intF, noF, newL, tyD, isiT, isiB, lenB, absB, intB, gcdB, tupB, lstB, ltG, leG, gtG, geG, isG, isnG, o2I, isO, getS, addF, subF, mulF, eqG_ii, neG_ii, neG_bb, fdivG, modG, powG, raiseS, wipeE, itsF]; exact h
  · obtain ⟨v, bb, rfl, h1, h2⟩ := chk_form (rowsI_ok d hd)
    refine ⟨irE x h b t lo le (some (.lst rowsL)) tw ow du (some (.tup [v, .bl bb])), rfl, fun Q h => ?_, fun h => by cases h⟩
    simp [seqS, setS, retS, retN, exprS, nilS, ifS, parS, asgS, bindT, bindTs, bindF, callC, varF, retF, consF, nilF, iteV, truF, truD, notF, andF, orF, andV, orV, notV, chF, chT, bodyEnds, startE, optF, idxF, slcF, intF, noF, newL, tyD, isiT, isiB, lenB, absB, intB, gcdB, tupB, lstB, ltG, leG, gtG, geG, isG, isnG, o2I, isO, getS, addF, subF, mulF, eqG_ii, neG_ii, neG_bb, fdivG, modG, powG, raiseS, wipeE, i0, i1]
    refine ⟨v, 100, rfl, h1, by omega, ?_⟩
    simp [seqS, setS, retS, retN, exprS, nilS, ifS, parS, asgS, bindT, bindTs, bindF, callC, varF, retF, consF, nilF, iteV, truF, truD, notF, andF, orF, andV, orV, notV, chF, chT, bodyEnds, startE, optF, idxF, slcF, intF, noF, newL, tyD, isiT, isiB, lenB, absB, intB, gcdB, tupB, lstB, ltG, leG, gtG, geG, isG, isnG, o2I, isO, getS, addF, subF, mulF, eqG_ii, neG_ii, neG_bb, fdivG, modG, powG, raiseS, wipeE, h2]
    exact h
  · rw [none_left]
    simp [seqS, setS, retS, retN, exprS, nilS, ifS, parS, asgS, bindT, bindTs, bindF, callC, varF, retF, consF, nilF, iteV, truF, truD, notF, andF, orF, andV, orV, notV, chF, chT, bodyEnds, startE, optF, idxF, slcF, intF, noF, newL, tyD, isiT, isiB, lenB, absB, intB, gcdB, tupB, lstB, ltG, leG, gtG, geG, isG, isnG, o2I, isO, getS, addF, subF, mulF, eqG_ii, neG_ii, neG_bb, fdivG, modG, powG, raiseS, wipeE]
    refine eqG_of rfl rfl (by simp [depD, depDs]) (by simp [depD, depDs]) ?_
    simp [eqD, eqDs]
    rw [he]
    exact hq
end
def cTrue : Ct := fun ds S Q _ => ds = [] ∧ Q (.bl true) S
theorem minus11 : minusD (0 + (rngItems 0 1 (Int.toNat 11)).length) xD = un "minus" kD := by kernel_rfl
theorem plus4 : plusD (0 + (rngItems 0 1 (Int.toNat 4)).length) xD = pD := by kernel_rfl
theorem ir_ok (ds : List D) (S : Store) (Q : D → Store → Prop) (E : QX) (hc : cTrue ds S Q E) : fs_law_integrands_right (cTreeF true) cAlg (cTreeF false) (bodyEnds Q E) (startE N_law_integrands_right ds) S := by
  obtain ⟨rfl, hq⟩ := hc
  have hs := sizeLine_eq
  have z1 : ∀ k : Nat, k ≤ 100 → k ≤ sizeLine := fun k h => by omega
  unfold fs_law_integrands_right
  refine ir0 (E := _) ?_
  unfold seqS forS
  simp only [bindF, consF, nilF, retF, rng1]
  refine ⟨by decide, ?_⟩
  refine forL_inv (fun i τ S' => S' = S ∧ ∃ t, τ = irE (some xD) (some (minusD i xD)) (some xD) t none none none none none none none) _ 0 ⟨rfl, _, rfl⟩ ?_ ?_
  · rintro j d - τ S' K ⟨rfl, t, rfl⟩ hK
    refine ⟨trivial, irE (some xD) (some (minusD (0 + j) xD)) (some xD) (some d) none none none none none none none, rfl, ?_⟩
    have e : minusD (0 + j + 1) xD = .tup [.str "minus", minusD (0 + j) xD] := rfl
    have hK := hK (irE (some xD) (some (.tup [.str "minus", minusD (0 + j) xD])) (some xD) (some d) none none none none none none none) S' ⟨rfl, some d, by rw [e]⟩
    revert hK
    generalize minusD (0 + j) xD = mm
    intro hK
    simp [seqS, setS, retS, retN, exprS, nilS, ifS, parS, asgS, bindT, bindTs, bindF, callC, varF, retF, consF, nilF, iteV, truF, truD, notF, andF, orF, andV, orV, notV, chF, chT, bodyEnds, startE, optF, idxF, slcF, intF, noF, newL, tyD, isiT, isiB, lenB, absB, intB, gcdB, tupB, lstB, ltG, leG, gtG, geG, isG, isnG, o2I, isO, getS, addF, subF, mulF, eqG_ii, neG_ii, neG_bb, fdivG, modG, powG, raiseS, wipeE, z1]
    exact hK
  · rintro τ S' ⟨rfl, t, rfl⟩
    refine ⟨trivial, ?_⟩
    rw [minus11]
    refine ⟨by decide, ?_⟩
    refine forL_inv (fun i τ S'' => S'' = S' ∧ ∃ t, τ = irE (some xD) (some (un "minus" kD)) (some (plusD i xD)) t none none none none none none none) _ 0 ⟨rfl, _, rfl⟩ ?_ ?_
    · rintro j d - τ S'' K ⟨rfl, t, rfl⟩ hK
      refine ⟨trivial, irE (some xD) (some (un "minus" kD)) (some (plusD (0 + j) xD)) (some d) none none none none none none none, rfl, ?_⟩
      have e : plusD (0 + j + 1) xD = .tup [.str "plus", plusD (0 + j) xD, plusD (0 + j) xD] := rfl
      have hK := hK (irE (some xD) (some (un "minus" kD)) (some (.tup [.str "plus", plusD (0 + j) xD, plusD (0 + j) xD])) (some d) none none none none none none none) S'' ⟨rfl, some d, by rw [e]⟩
      revert hK
      generalize plusD (0 + j) xD = mm
      generalize un "minus" kD = kk
      intro hK
      simp [seqS, setS, retS, retN, exprS, nilS, ifS, parS, asgS, bindT, bindTs, bindF, callC, varF, retF, consF, nilF, iteV, truF, truD, notF, andF, orF, andV, orV, notV, chF, chT, bodyEnds, startE, optF, idxF, slcF, intF, noF, newL, tyD, isiT, isiB, lenB, absB, intB, gcdB, tupB, lstB, ltG, leG, gtG, geG, isG, isnG, o2I, isO, getS, addF, subF, mulF, eqG_ii, neG_ii, neG_bb, fdivG, modG, powG, raiseS, wipeE, z1]
      exact hK
    · rintro τ S'' ⟨rfl, t, rfl⟩
      refine ⟨trivial, ?_⟩
      rw [plus4]
      refine ir1 (E := _) (ir2 (E := _) un_idx (ir3 (E := _) (ir4 (E := _) bi_idx (ir5 (E := _) un_idx (ir6 (E := _) (by rw [hs]; decide) ?_)))))
      have i7 : ∀ (E : DEnds) (R : List D), E.nx (irE (some xD) (some (un "minus" kD)) (some (bodyG pD xD)) t (some (.lst lotsL)) (some (lessG pD xD)) (some (.lst R)) (some twoD) none none none) S'' → setS 7 (tupE (consF (str! "number") (consF (tupE (consF (int! 2) (consF (int! 1) nilF))) nilF))) E (irE (some xD) (some (un "minus" kD)) (some (bodyG pD xD)) t (some (.lst lotsL)) (some (lessG pD xD)) (some (.lst R)) none none none none) S'' := by
        intro E R hh
        revert hh
        generalize un "minus" kD = q1
        generalize bodyG pD xD = q2
        generalize lessG pD xD = q3
        generalize lotsL = q4
        intro hh
        simp [seqS, setS, retS, retN, exprS, nilS, ifS, parS, asgS, bindT, bindTs, bindF, callC, varF, retF, consF, nilF, iteV, truF, truD, notF, andF, orF, andV, orV, notV, chF, chT, bodyEnds, startE, optF, idxF, slcF, intF, noF, newL, tyD, isiT, isiB, lenB, absB, intB, gcdB, tupB, lstB, ltG, leG, gtG, geG, isG, isnG, o2I, isO, getS, addF, subF, mulF, eqG_ii, neG_ii, neG_bb, fdivG, modG, powG, raiseS, wipeE, z1]
        exact hh
      exact i7 _ _ (ir7 (E := _) (ir8 (E := _) rfl hq))
end LawX

set_option Elab.async false
set_option linter.all false
set_option maxRecDepth 100000
set_option maxHeartbeats 0
set_option exponentiation.threshold 5000
namespace LawX
open PySem PySem.Spec PyProof.Rows L2 Dx
/-! ### told trees have no strange word -/
def strL : List D := [.str "area", .str "atan", .str "cos", .str "exp", .str "log", .str "pi", .str "sin"]
def strP (p : D) : Bool := match p with
  | .tup (.str w :: _) => inL strL w
  | _ => false
theorem told_words {w : Str} (h : inL toldL w = true) : inL strL w = false := by
  simp [inL, toldL, eqD] at h
  rcases h with h | h | h | h | h | h | h | h | h | h | h | h <;> subst h <;> decide +kernel
theorem told_of : ∀ (h : Nat) (v : D), validM h false v = true → (∀ p ∈ partsL h v, strP p = false) → ∀ p ∈ partsL h v, toldP p = true
  | 0, _, hv, _, _, _ => by cases hv
  | h + 1, v, hv, hs, p, hp => by
    obtain ⟨k, w, as, cs, e1, rfl, h1, hk⟩ := valid_kids hv
    have e1 : h = k := by omega
    subst e1
    have hw : inL strL w = false := hs (.tup (.str w :: as)) (by rw [parts_succ]; exact List.mem_cons_self)
    have hkids := hk.kids
    have sub : ∀ c ∈ cs, ∀ q ∈ partsL h c.2, q ∈ partsL (h + 1) (.tup (.str w :: as)) := fun c hc q hq => by
      rw [parts_succ, hkids]
      exact List.mem_cons_of_mem _ (List.mem_flatMap.mpr ⟨c.2, List.mem_map.mpr ⟨c, hc, rfl⟩, hq⟩)
    have own : inL toldL w = true ∧ ∀ c ∈ cs, c.1 = false := by
      cases hk with
      | one a b =>
        refine ⟨?_, fun c hc => by simp at hc; subst hc; rfl⟩
        rcases one_words a with rfl | rfl | rfl | rfl | rfl | rfl | rfl | rfl <;> first | (decide +kernel) | (exact absurd hw (by decide +kernel))
      | pow a b c =>
        subst a
        exact ⟨by decide +kernel, fun c hc => by simp at hc; subst hc; rfl⟩
      | two a b c =>
        refine ⟨?_, fun c hc => by simp at hc; rcases hc with rfl | rfl <;> rfl⟩
        rcases two_words a with rfl | rfl | rfl | rfl | rfl | rfl <;> decide +kernel
      | area a b c d =>
        subst a
        exact absurd hw (by decide +kernel)
      | leaf a =>
        refine ⟨?_, fun c hc => by cases hc⟩
        rcases leaf_words a with rfl | rfl | rfl | rfl
        · decide +kernel
        · exact absurd hw (by decide +kernel)
        · unfold leafB at a
          rw [if_neg (by decide +kernel), if_neg (by decide +kernel), if_pos rfl] at a
          simp at a
        · decide +kernel
    rw [parts_succ, hkids] at hp
    rcases List.mem_cons.mp hp with rfl | hp
    · exact own.1
    · obtain ⟨q, hq, hp⟩ := List.mem_flatMap.mp hp
      obtain ⟨c, hc, rfl⟩ := List.mem_map.mp hq
      have hcv := hk.valid c hc
      rw [own.2 c hc] at hcv
      exact told_of h c.2 hcv (fun q hq => hs q (sub c hc q hq)) p hp
theorem told_strange {v : D} (hv : validM 12 false v = true) : (partsL 12 v).all toldP = !(partsL 12 v).any strP := by
  rw [Bool.eq_iff_iff]
  simp only [List.all_eq_true, Bool.not_eq_true', List.any_eq_false]
  constructor
  · intro h p hp hstr
    have ht := h p hp
    unfold toldP at ht
    split at ht
    · rename_i w as
      have : inL strL w = true := hstr
      rw [told_words ht] at this
      cases this
    · cases ht
  · intro h p hp
    exact told_of 12 v hv (fun q hq => by simpa using h q hq) p hp
end LawX

set_option Elab.async false
set_option linter.all false
set_option maxRecDepth 100000
set_option maxHeartbeats 0
set_option exponentiation.threshold 5000
namespace LawX
open PySem PySem.Spec PyProof.Rows L2 Dx
abbrev lwE (s t tr wd st at_ nr : Option D) : Dx.Env := [s, some (.obj 0), t, tr, wd, st, at_, nr, none, none, none, none, none, none, none, none, none, none, none]
/-- a tree of the law's loop -/
def Tn (t : D) : Prop := okD 4 t = true ∧ depD t ≤ 12
section
variable {E : DEnds} {S : Store} {s t tr wd st at_ nr : Option D}
theorem lw3 (hc : Cup 0 S) (hn : ∀ (v : D) (S' : Store), Tn v → CupR 0 S S' → E.nx (lwE s t (some v) wd st at_ nr) S') : fslaw_3 cSome (cTr 3) (cTr 3) E (lwE s t tr wd st at_ nr) S := by
  have hs := sizeLine_eq
  have z1 : ∀ k : Nat, k ≤ 100 → k ≤ sizeLine := fun k h => by omega
  simp [fslaw_3, seqS, setS, retS, retN, exprS, nilS, ifS, parS, asgS, bindT, bindTs, bindF, callC, varF, retF, consF, nilF, iteV, truF, truD, notF, andF, orF, andV, orV, notV, chF, chT, bodyEnds, startE, optF, idxF, slcF, intF, noF, newL, tyD, isiT, isiB, lenB, absB, intB, gcdB, tupB, lstB, ltG, leG, gtG, geG, isG, isnG, o2I, isO, getS, addF, subF, mulF, eqG_ii, neG_ii, neG_bb, fdivG, modG, powG, raiseS, wipeE, z1]
  refine ⟨0, rfl, hc, by decide, fun v1 S1 h1 r1 => ?_⟩
  refine ⟨0, rfl, r1.cup, by decide, fun v2 S2 h2 r2 => ?_⟩
  refine ⟨0, _, rfl, r2.cup, by simp, z1 _ (by simp), fun d S3 hd r3 => ?_⟩
  have r0 := (r1.trans r2).trans r3
  simp at hd
  rcases hd with rfl | rfl
  · exact hn _ S3 ⟨h1.ok, h1.dep⟩ r0
  · exact hn _ S3 ⟨h2.ok, h2.dep⟩ r0
theorem lw4 {v : D} (hv : Tn v) (hc : Cup 0 S) (hn : ∀ (v : D) (S' : Store), Tn v → CupR 0 S S' → E.nx (lwE s t (some v) wd st at_ nr) S') : fslaw_4 cRoll cLFrac E (lwE s t (some v) wd st at_ nr) S := by
  have hs := sizeLine_eq
  have z1 : ∀ k : Nat, k ≤ 100 → k ≤ sizeLine := fun k h => by omega
  simp [fslaw_4, seqS, setS, retS, retN, exprS, nilS, ifS, parS, asgS, bindT, bindTs, bindF, callC, varF, retF, consF, nilF, iteV, truF, truD, notF, andF, orF, andV, orV, notV, chF, chT, bodyEnds, startE, optF, idxF, slcF, intF, noF, newL, tyD, isiT, isiB, lenB, absB, intB, gcdB, tupB, lstB, ltG, leG, gtG, geG, isG, isnG, o2I, isO, getS, addF, subF, mulF, eqG_ii, neG_ii, neG_bb, fdivG, modG, powG, raiseS, wipeE, z1]
  refine ⟨0, 4, rfl, hc, by decide, big4000 (by decide), fun k S1 a1 a2 r1 => ?_⟩
  by_cases hk : k = 0
  · simp [seqS, setS, retS, retN, exprS, nilS, ifS, parS, asgS, bindT, bindTs, bindF, callC, varF, retF, consF, nilF, iteV, truF, truD, notF, andF, orF, andV, orV, notV, chF, chT, bodyEnds, startE, optF, idxF, slcF, intF, noF, newL, tyD, isiT, isiB, lenB, absB, intB, gcdB, tupB, lstB, ltG, leG, gtG, geG, isG, isnG, o2I, isO, getS, addF, subF, mulF, eqG_ii, neG_ii, neG_bb, fdivG, modG, powG, raiseS, wipeE, z1, hk]
    refine ⟨0, rfl, r1.cup, fun a b S2 b1 b2 b3 b4 r2 => ?_⟩
    obtain ⟨m1, m2⟩ := madeT (a := a) (b := b) (n := 0) (by omega) (by omega) (by omega)
    refine hn _ S2 ⟨okD_tup.mpr ⟨by simp, fun d hd => ?_⟩, ?_⟩ (r1.trans r2)
    · simp at hd
      rcases hd with rfl | rfl | rfl | rfl
      · decide +kernel
      · decide +kernel
      · decide +kernel
      · exact m1
    · refine Nat.le_trans (depD_tup (n := 3).mpr fun d hd => ?_) (by omega)
      simp at hd
      rcases hd with rfl | rfl | rfl | rfl
      · simp [depD]
      · decide +kernel
      · decide +kernel
      · omega
  · simp [seqS, setS, retS, retN, exprS, nilS, ifS, parS, asgS, bindT, bindTs, bindF, callC, varF, retF, consF, nilF, iteV, truF, truD, notF, andF, orF, andV, orV, notV, chF, chT, bodyEnds, startE, optF, idxF, slcF, intF, noF, newL, tyD, isiT, isiB, lenB, absB, intB, gcdB, tupB, lstB, ltG, leG, gtG, geG, isG, isnG, o2I, isO, getS, addF, subF, mulF, eqG_ii, neG_ii, neG_bb, fdivG, modG, powG, raiseS, wipeE, z1, hk]
    exact hn v S1 hv r1
theorem lw6 {v : D} (hv : Tn v) (hc : Cup 0 S) (hn : ∀ (S' : Store) (n' : Option D), CupR 0 S S' → E.nx (lwE s t (some v) wd st at_ n') S') : fslaw_6 cRight (cSpoilt 12) E (lwE s t (some v) wd st at_ nr) S := by
  unfold fslaw_6 forS
  simp only [bindF, consF, nilF, retF, rng1]
  refine ⟨by decide, ?_⟩
  refine forL_inv (fun _ τ S' => CupR 0 S S' ∧ ∃ n', τ = lwE s t (some v) wd st at_ n') _ 0 ⟨CupR.refl hc, _, rfl⟩ ?_ ?_
  · rintro j d - τ S' K ⟨r, n', rfl⟩ hK
    refine ⟨trivial, lwE s t (some v) wd st at_ (some d), rfl, ?_⟩
    simp [seqS, setS, retS, retN, exprS, nilS, ifS, parS, asgS, bindT, bindTs, bindF, callC, varF, retF, consF, nilF, iteV, truF, truD, notF, andF, orF, andV, orV, notV, chF, chT, bodyEnds, startE, optF, idxF, slcF, intF, noF, newL, tyD, isiT, isiB, lenB, absB, intB, gcdB, tupB, lstB, ltG, leG, gtG, geG, isG, isnG, o2I, isO, getS, addF, subF, mulF, eqG_ii, neG_ii, neG_bb, fdivG, modG, powG, raiseS, wipeE]
    refine ⟨0, v, 4, rfl, r.cup, hv.1, hv.2, by decide, by decide, by decide, fun q S2 q1 q2 r2 => ?_⟩
    refine ⟨q, _, rfl, q1, by decide, by omega, ?_⟩
    simp [seqS, setS, retS, retN, exprS, nilS, ifS, parS, asgS, bindT, bindTs, bindF, callC, varF, retF, consF, nilF, iteV, truF, truD, notF, andF, orF, andV, orV, notV, chF, chT, bodyEnds, startE, optF, idxF, slcF, intF, noF, newL, tyD, isiT, isiB, lenB, absB, intB, gcdB, tupB, lstB, ltG, leG, gtG, geG, isG, isnG, o2I, isO, getS, addF, subF, mulF, eqG_ii, neG_ii, neG_bb, fdivG, modG, powG, raiseS, wipeE]
    exact hK _ _ ⟨r.trans r2, _, rfl⟩
  · rintro τ S' ⟨r, n', rfl⟩
    exact ⟨trivial, hn S' n' r⟩
end
end LawX

set_option Elab.async false
set_option linter.all false
set_option maxRecDepth 100000
set_option maxHeartbeats 0
set_option exponentiation.threshold 5000
namespace LawX
open PySem PySem.Spec PyProof.Rows L2 Dx
def wordsL (v : D) : List D := (partsL 12 v).map headD
theorem w_num2 : w_law_error "InvalidNumber" = some "number" := by kernel_rfl
theorem w_tree : w_law_error "InvalidTree" = some "tree" := by kernel_rfl
section
variable {E : DEnds} {S : Store} {s t tr wd st at_ nr : Option D}
theorem words_str {v : D} (h1 : validM 12 false v = true) (ho : okD 4 v = true) : ∀ d ∈ wordsL v, ∃ w, d = .str w ∧ datD (.str w) = true := fun d hd => by
  obtain ⟨p, hp, rfl⟩ := List.mem_map.mp hd
  obtain ⟨⟨w, as, rfl⟩, h3⟩ := parts_form 12 false v 4 h1 ho p hp
  exact ⟨w, rfl, str_dat h3⟩
def strW (d : D) : Bool := match d with
  | .str w => inL strL w
  | _ => false
theorem lw0 {v : D} (h1 : validM 12 false v = true) (ho : okD 4 v = true) (hl : (partsL 12 v).length ≤ 40) (hn : E.nx (lwE s t (some v) (some (.lst (wordsL v))) (some (.lst ((wordsL v).filter strW))) at_ nr) S) :
    fslaw_0 E (lwE s t (some v) (some (.lst (wordsL v))) st at_ nr) S := by
  have hs := sizeLine_eq
  have z1 : ∀ k : Nat, k ≤ 100 → k ≤ sizeLine := fun k h => by omega
  have hw := words_str h1 ho
  simp only [fslaw_0, setS]
  refine compF_val (wordsL v) (fun _ => True) strW id (fun Q h => ?_) trivial (z1 _ (by simp [wordsL]; omega)) (fun d hd => ⟨_, rfl, fun Q h => ?_, fun _ Q h => ?_⟩) ?_
  · simp [seqS, setS, retS, retN, exprS, nilS, ifS, parS, asgS, bindT, bindTs, bindF, callC, varF, retF, consF, nilF, iteV, truF, truD, notF, andF, orF, andV, orV, notV, chF, chT, bodyEnds, startE, optF, idxF, slcF, intF, noF, newL, tyD, isiT, isiB, lenB, absB, intB, gcdB, tupB, lstB, ltG, leG, gtG, geG, isG, isnG, o2I, isO, getS, addF, subF, mulF, eqG_ii, neG_ii, neG_bb, fdivG, modG, powG, raiseS, wipeE, itsF]; exact h
  · obtain ⟨w, rfl, h2⟩ := hw d hd
    simp [seqS, setS, retS, retN, exprS, nilS, ifS, parS, asgS, bindT, bindTs, bindF, callC, varF, retF, consF, nilF, iteV, truF, truD, notF, andF, orF, andV, orV, notV, chF, chT, bodyEnds, startE, optF, idxF, slcF, intF, noF, newL, tyD, isiT, isiB, lenB, absB, intB, gcdB, tupB, lstB, ltG, leG, gtG, geG, isG, isnG, o2I, isO, getS, addF, subF, mulF, eqG_ii, neG_ii, neG_bb, fdivG, modG, powG, raiseS, wipeE, z1]
    refine cast (in_lst (ds := strL) h2 (by decide +kernel) (by decide +kernel)).symm ?_
    simp [seqS, setS, retS, retN, exprS, nilS, ifS, parS, asgS, bindT, bindTs, bindF, callC, varF, retF, consF, nilF, iteV, truF, truD, notF, andF, orF, andV, orV, notV, chF, chT, bodyEnds, startE, optF, idxF, slcF, intF, noF, newL, tyD, isiT, isiB, lenB, absB, intB, gcdB, tupB, lstB, ltG, leG, gtG, geG, isG, isnG, o2I, isO, getS, addF, subF, mulF, eqG_ii, neG_ii, neG_bb, fdivG, modG, powG, raiseS, wipeE]
    exact h
  · simp [seqS, setS, retS, retN, exprS, nilS, ifS, parS, asgS, bindT, bindTs, bindF, callC, varF, retF, consF, nilF, iteV, truF, truD, notF, andF, orF, andV, orV, notV, chF, chT, bodyEnds, startE, optF, idxF, slcF, intF, noF, newL, tyD, isiT, isiB, lenB, absB, intB, gcdB, tupB, lstB, ltG, leG, gtG, geG, isG, isnG, o2I, isO, getS, addF, subF, mulF, eqG_ii, neG_ii, neG_bb, fdivG, modG, powG, raiseS, wipeE]; exact h
  · simpa using hn
theorem strange_any {v : D} : (wordsL v).any strW = (partsL 12 v).any strP := by
  unfold wordsL
  rw [List.any_map]
  congr 1
  funext p
  cases p with
  | tup xs =>
    cases xs with
    | nil => rfl
    | cons x r => cases x <;> rfl
  | _ => rfl
theorem eqD_str {w : Str} : eqD (.str w) (.str w) = true := by simp [eqD]
theorem lw1 {v : D} {k : Nat} (ht : treeB false v = true) (ho : okD 4 v = true) (hk : k < (partsL 12 v).length) (hn : E.nx (lwE s t (some v) (some (.lst (wordsL v))) (some (.lst ((wordsL v).filter strW))) (some (.int (k : Nat))) nr) S) :
    fslaw_1 cAlg cSize cSort E (lwE s t (some v) (some (.lst (wordsL v))) (some (.lst ((wordsL v).filter strW))) (some (.int (k : Nat))) nr) S := by
  have hs := sizeLine_eq
  have z1 : ∀ k : Nat, k ≤ 100 → k ≤ sizeLine := fun k h => by omega
  obtain ⟨h1, h2⟩ := tree_parts ht
  have hw := words_str h1 ho
  have hfd : datD (.lst ((wordsL v).filter strW)) = true ∧ depD (.lst ((wordsL v).filter strW)) ≤ 0 + 1 := filt_dat (l := 4) (fun d hd => by
    obtain ⟨w, rfl, h3⟩ := hw d hd
    simpa [okD, datD] using h3) (fun d hd => by
    obtain ⟨w, rfl, h3⟩ := hw d hd
    simp [depD])
  have hlen : (wordsL v).length = (partsL 12 v).length := by simp [wordsL]
  have hat : L2.atI (wordsL v) (k : Int) = some (headD (partsL 12 v)[k]) := by
    unfold L2.atI L2.ixN
    rw [if_pos (by omega), if_pos (by rw [hlen]; omega)]
    simp [wordsL, hk]
  obtain ⟨w, ew, hwd⟩ := hw (headD (partsL 12 v)[k]) (List.mem_map.mpr ⟨_, List.getElem_mem hk, rfl⟩)
  simp [fslaw_1, seqS, setS, retS, retN, exprS, nilS, ifS, parS, asgS, bindT, bindTs, bindF, callC, varF, retF, consF, nilF, iteV, truF, truD, notF, andF, orF, andV, orV, notV, chF, chT, bodyEnds, startE, optF, idxF, slcF, intF, noF, newL, tyD, isiT, isiB, lenB, absB, intB, gcdB, tupB, lstB, ltG, leG, gtG, geG, isG, isnG, o2I, isO, getS, addF, subF, mulF, eqG_ii, neG_ii, neG_bb, fdivG, modG, powG, raiseS, wipeE, z1]
  refine ⟨v, 4, rfl, ho, by decide, ?_⟩
  rw [if_pos ht]
  refine eqG_of hfd.1 rfl (by omega) (by simp [depD, depDs]) ?_
  rw [nil_eq, strange_any, ← told_strange h1]
  simp [seqS, setS, retS, retN, exprS, nilS, ifS, parS, asgS, bindT, bindTs, bindF, callC, varF, retF, consF, nilF, iteV, truF, truD, notF, andF, orF, andV, orV, notV, chF, chT, bodyEnds, startE, optF, idxF, slcF, intF, noF, newL, tyD, isiT, isiB, lenB, absB, intB, gcdB, tupB, lstB, ltG, leG, gtG, geG, isG, isnG, o2I, isO, getS, addF, subF, mulF, eqG_ii, neG_ii, neG_bb, fdivG, modG, powG, raiseS, wipeE]
  refine ⟨v, 4, rfl, ho, by decide, ?_⟩
  rw [if_pos ht]
  simp [seqS, setS, retS, retN, exprS, nilS, ifS, parS, asgS, bindT, bindTs, bindF, callC, varF, retF, consF, nilF, iteV, truF, truD, notF, andF, orF, andV, orV, notV, chF, chT, bodyEnds, startE, optF, idxF, slcF, intF, noF, newL, tyD, isiT, isiB, lenB, absB, intB, gcdB, tupB, lstB, ltG, leG, gtG, geG, isG, isnG, o2I, isO, getS, addF, subF, mulF, eqG_ii, neG_ii, neG_bb, fdivG, modG, powG, raiseS, wipeE, hlen]
  refine ⟨v, _, 4, rfl, ho, by decide, rfl, fun z => (by rw [ht] at z; cases z), fun _ z => ?_, fun _ k' p e1 e2 => ?_⟩
  · simp [wholeB] at z
    omega
  · cases e1
    rw [List.getElem?_eq_getElem hk] at e2
    cases e2
    simp [seqS, setS, retS, retN, exprS, nilS, ifS, parS, asgS, bindT, bindTs, bindF, callC, varF, retF, consF, nilF, iteV, truF, truD, notF, andF, orF, andV, orV, notV, chF, chT, bodyEnds, startE, optF, idxF, slcF, intF, noF, newL, tyD, isiT, isiB, lenB, absB, intB, gcdB, tupB, lstB, ltG, leG, gtG, geG, isG, isnG, o2I, isO, getS, addF, subF, mulF, eqG_ii, neG_ii, neG_bb, fdivG, modG, powG, raiseS, wipeE, hat, ew]
    refine neG_of hwd hwd (by simp [depD]) (by simp [depD]) ?_
    simp [eqD_str]
    exact hn
theorem lw2 {v : D} (ht : treeB false v = true) (ho : okD 4 v = true) {st2 at2 : Option D} (hn : E.nx (lwE s t (some v) (some (.lst (wordsL v))) st2 at2 nr) S) :
    fslaw_2 cSort E (lwE s t (some v) (some (.lst (wordsL v))) st2 at2 nr) S := by
  have hlen : (wordsL v).length = (partsL 12 v).length := by simp [wordsL]
  simp [fslaw_2, seqS, setS, retS, retN, exprS, nilS, ifS, parS, asgS, bindT, bindTs, bindF, callC, varF, retF, consF, nilF, iteV, truF, truD, notF, andF, orF, andV, orV, notV, chF, chT, bodyEnds, startE, optF, idxF, slcF, intF, noF, newL, tyD, isiT, isiB, lenB, absB, intB, gcdB, tupB, lstB, ltG, leG, gtG, geG, isG, isnG, o2I, isO, getS, addF, subF, mulF, eqG_ii, neG_ii, neG_bb, fdivG, modG, powG, raiseS, wipeE, lamF]
  refine ⟨v, _, 4, rfl, ho, by decide, rfl, fun z => (by rw [ht] at z; cases z), fun _ z => ?_, fun _ k' p e1 e2 => ?_⟩
  · simp [w_num2]
    refine neG_of (by decide +kernel) (by decide +kernel) (by simp [depD]) (by simp [depD]) ?_
    simp [eqD_str]
    exact hn
  · have : k' = (partsL 12 v).length := by
      have := congrArg (fun d => match d with | D.int i => i | _ => 0) e1
      simp [hlen] at this
      omega
    subst this
    simp at e2
end
end LawX

set_option Elab.async false
set_option linter.all false
set_option maxRecDepth 100000
set_option maxHeartbeats 0
set_option exponentiation.threshold 5000
namespace LawX
open PySem PySem.Spec PyProof.Rows L2 Dx
section
variable {E : DEnds} {S : Store} {s t tr wd st at_ nr : Option D}
theorem lw5 {v : D} (hv : Tn v) (hc : Cup 0 S) (hn : ∀ (S' : Store) (wd st at_ : Option D), CupR 0 S S' → E.nx (lwE s t (some v) wd st at_ nr) S') :
    fslaw_5 (cTreeF false) (cLParts 12) cRoll cAlg cSize cSort E (lwE s t (some v) wd st at_ nr) S := by
  have hs := sizeLine_eq
  have z1 : ∀ k : Nat, k ≤ 100 → k ≤ sizeLine := fun k h => by omega
  unfold fslaw_5
  simp only [ifS, truT, callE, consF, nilF, bindF, varF, retF, List.getElem?_cons_succ, List.getElem?_cons_zero, callC]
  refine ⟨v, 4, rfl, hv.1, by decide, ?_⟩
  simp only [truF, optF, truD, getS]
  cases ht : treeB false v with
  | false => simp [seqS, setS, retS, retN, exprS, nilS, ifS, parS, asgS, bindT, bindTs, bindF, callC, varF, retF, consF, nilF, iteV, truF, truD, notF, andF, orF, andV, orV, notV, chF, chT, bodyEnds, startE, optF, idxF, slcF, intF, noF, newL, tyD, isiT, isiB, lenB, absB, intB, gcdB, tupB, lstB, ltG, leG, gtG, geG, isG, isnG, o2I, isO, getS, addF, subF, mulF, eqG_ii, neG_ii, neG_bb, fdivG, modG, powG, raiseS, wipeE]; exact hn S wd st at_ (CupR.refl hc)
  | true =>
    obtain ⟨h1, h2⟩ := tree_parts ht
    have pf := parts_form 12 false v 4 h1 hv.1
    rw [if_pos rfl]
    simp only [seqS, setS]
    refine compF_val (partsL 12 v) (fun _ => True) (fun _ => true) headD (fun Q h => ?_) trivial (by omega) (fun d hd => ⟨_, rfl, fun Q h => h, fun _ Q h => ?_⟩) ?_
    · simp [seqS, setS, retS, retN, exprS, nilS, ifS, parS, asgS, bindT, bindTs, bindF, callC, varF, retF, consF, nilF, iteV, truF, truD, notF, andF, orF, andV, orV, notV, chF, chT, bodyEnds, startE, optF, idxF, slcF, intF, noF, newL, tyD, isiT, isiB, lenB, absB, intB, gcdB, tupB, lstB, ltG, leG, gtG, geG, isG, isnG, o2I, isO, getS, addF, subF, mulF, eqG_ii, neG_ii, neG_bb, fdivG, modG, powG, raiseS, wipeE]
      refine ⟨v, false, 4, rfl, h1, hv.1, by decide, by omega, ?_⟩
      simp [itsF, seqS, setS, retS, retN, exprS, nilS, ifS, parS, asgS, bindT, bindTs, bindF, callC, varF, retF, consF, nilF, iteV, truF, truD, notF, andF, orF, andV, orV, notV, chF, chT, bodyEnds, startE, optF, idxF, slcF, intF, noF, newL, tyD, isiT, isiB, lenB, absB, intB, gcdB, tupB, lstB, ltG, leG, gtG, geG, isG, isnG, o2I, isO, getS, addF, subF, mulF, eqG_ii, neG_ii, neG_bb, fdivG, modG, powG, raiseS, wipeE]
      exact h
    · obtain ⟨⟨w, as, rfl⟩, _⟩ := pf d hd
      simp [seqS, setS, retS, retN, exprS, nilS, ifS, parS, asgS, bindT, bindTs, bindF, callC, varF, retF, consF, nilF, iteV, truF, truD, notF, andF, orF, andV, orV, notV, chF, chT, bodyEnds, startE, optF, idxF, slcF, intF, noF, newL, tyD, isiT, isiB, lenB, absB, intB, gcdB, tupB, lstB, ltG, leG, gtG, geG, isG, isnG, o2I, isO, getS, addF, subF, mulF, eqG_ii, neG_ii, neG_bb, fdivG, modG, powG, raiseS, wipeE, i0]
      exact h
    · have ef : (partsL 12 v).filter (fun _ => true) = partsL 12 v := by simp
      rw [ef]
      have hlen : (wordsL v).length = (partsL 12 v).length := by simp [wordsL]
      have hp := parts_len1 (h := 12) (v := v)
      refine lw0 (E := _) h1 hv.1 h2 ?_
      simp [seqS, setS, retS, retN, exprS, nilS, ifS, parS, asgS, bindT, bindTs, bindF, callC, varF, retF, consF, nilF, iteV, truF, truD, notF, andF, orF, andV, orV, notV, chF, chT, bodyEnds, startE, optF, idxF, slcF, intF, noF, newL, tyD, isiT, isiB, lenB, absB, intB, gcdB, tupB, lstB, ltG, leG, gtG, geG, isG, isnG, o2I, isO, getS, addF, subF, mulF, eqG_ii, neG_ii, neG_bb, fdivG, modG, powG, raiseS, wipeE]
      refine ⟨0, (wordsL v).length, rfl, hc, by omega, big4000 (by omega), fun k S1 a1 a2 r1 => ?_⟩
      obtain ⟨k, rfl⟩ : ∃ k' : Nat, k = k' := ⟨k.toNat, by omega⟩
      refine lw1 (E := _) ht hv.1 (by omega) ?_
      exact lw2 (E := _) ht hv.1 (hn S1 _ _ _ r1)
theorem lw7 (hc : Cup 0 S) (hn : ∀ (S' : Store) (t tr wd st at_ nr : Option D), Cup 0 S' → E.nx (lwE s t tr wd st at_ nr) S') :
    fslaw_7 cSome (cTr 3) (cTr 3) cRoll cLFrac cRight (cTreeF false) (cLParts 12) cAlg cSize cSort (cSpoilt 12) E (lwE s t tr wd st at_ nr) S := by
  unfold fslaw_7 forS
  simp only [bindF, consF, nilF, retF, rng1]
  refine ⟨by decide, ?_⟩
  refine forL_inv (fun _ τ S' => Cup 0 S' ∧ ∃ t tr wd st at_ nr, τ = lwE s t tr wd st at_ nr) _ 0 ⟨hc, _, _, _, _, _, _, rfl⟩ ?_ ?_
  · rintro j d - τ S' K ⟨c, t, tr, wd, st, at_, nr, rfl⟩ hK
    refine ⟨trivial, lwE s (some d) tr wd st at_ nr, rfl, ?_⟩
    refine lw3 (E := _) c fun v S1 hv r1 => ?_
    refine lw4 (E := _) hv r1.cup fun v S2 hv r2 => ?_
    simp [seqS, setS, retS, retN, exprS, nilS, ifS, parS, asgS, bindT, bindTs, bindF, callC, varF, retF, consF, nilF, iteV, truF, truD, notF, andF, orF, andV, orV, notV, chF, chT, bodyEnds, startE, optF, idxF, slcF, intF, noF, newL, tyD, isiT, isiB, lenB, absB, intB, gcdB, tupB, lstB, ltG, leG, gtG, geG, isG, isnG, o2I, isO, getS, addF, subF, mulF, eqG_ii, neG_ii, neG_bb, fdivG, modG, powG, raiseS, wipeE]
    refine ⟨v, 4, rfl, hv.1, by decide, Nat.le_trans hv.2 (by decide), ?_⟩
    simp [seqS, setS, retS, retN, exprS, nilS, ifS, parS, asgS, bindT, bindTs, bindF, callC, varF, retF, consF, nilF, iteV, truF, truD, notF, andF, orF, andV, orV, notV, chF, chT, bodyEnds, startE, optF, idxF, slcF, intF, noF, newL, tyD, isiT, isiB, lenB, absB, intB, gcdB, tupB, lstB, ltG, leG, gtG, geG, isG, isnG, o2I, isO, getS, addF, subF, mulF, eqG_ii, neG_ii, neG_bb, fdivG, modG, powG, raiseS, wipeE]
    refine lw5 (E := _) hv r2.cup fun S3 wd st at_ r3 => ?_
    exact lw6 (E := _) hv r3.cup fun S4 n' r4 => hK _ _ ⟨r4.cup, _, _, _, _, _, _, rfl⟩
  · rintro τ S' ⟨c, t, tr, wd, st, at_, nr, rfl⟩
    exact ⟨trivial, hn S' t tr wd st at_ nr c⟩
end
end LawX

set_option Elab.async false
set_option linter.all false
set_option maxRecDepth 100000
set_option maxHeartbeats 0
set_option exponentiation.threshold 5000
namespace LawX
open PySem PySem.Spec PyProof.Rows L2 Dx
abbrev leE (s t tr wd st at_ nr a ch wi sh ro fu on : Option D) : Dx.Env := [s, some (.obj 0), t, tr, wd, st, at_, nr, a, ch, wi, sh, ro, fu, on, none, none, none, none]
def piD : D := .tup [.str "pi"]
def halfD : D := .tup [.str "number", .tup [.int 1, .int 2]]
section
variable {E : DEnds} {S : Store} {s t tr wd st at_ nr a ch wi sh ro fu on : Option D}
theorem le8 (hn : E.nx (leE s t tr wd st at_ nr (some halfD) (some piD) (some piD) (some piD) ro fu on) S) : fslaw_8 E (leE s t tr wd st at_ nr a ch wi sh ro fu on) S := by
  have hs := sizeLine_eq
  have z1 : ∀ k : Nat, k ≤ 100 → k ≤ sizeLine := fun k h => by omega
  simp [fslaw_8, seqS, setS, retS, retN, exprS, nilS, ifS, parS, asgS, bindT, bindTs, bindF, callC, varF, retF, consF, nilF, iteV, truF, truD, notF, andF, orF, andV, orV, notV, chF, chT, bodyEnds, startE, optF, idxF, slcF, intF, noF, newL, tyD, isiT, isiB, lenB, absB, intB, gcdB, tupB, lstB, ltG, leG, gtG, geG, isG, isnG, o2I, isO, getS, addF, subF, mulF, eqG_ii, neG_ii, neG_bb, fdivG, modG, powG, raiseS, wipeE, z1]
  exact hn
def rowsA (A C W H : D) : List D := [pr A true, pr C true, pr (un "abs" C) false, pr W true, pr (bi "plus" W W) false, pr H false, pr (.tup [.str "number", .tup [.int 2, .int 4]]) false]
theorem le10 {A C W H : D} (hn : E.nx (leE s t tr wd st at_ nr (some A) (some C) (some W) (some H) (some (.lst (rowsA A C W H))) fu on) S) : fslaw_10 E (leE s t tr wd st at_ nr (some A) (some C) (some W) (some H) ro fu on) S := by
  have hs := sizeLine_eq
  have z1 : ∀ k : Nat, k ≤ 100 → k ≤ sizeLine := fun k h => by omega
  unfold fslaw_10
  exact ⟨z1 _ (by simp), z1 _ (by simp), z1 _ (by simp), z1 _ (by simp), z1 _ (by simp), z1 _ (by simp), z1 _ (by simp), z1 _ (by simp), z1 _ (by simp), z1 _ (by simp), z1 _ (by simp), z1 _ (by simp), hn⟩
def rowsB (A : D) : List D := [pr (bi "root" (.tup [.int 1]) (.int 0)) false, pr (bi "root" (.tup [.int 0, .int 1]) (.int 7)) true, pr (bi "root" (.tup [.int 0, .int 1]) (.int 8)) false, pr (bi "power" A (.int 12)) true, pr (bi "power" A (.int 13)) false]
theorem le11 {A : D} {R : List D} (hl : R.length + 5 ≤ sizeLine) (hn : E.nx (leE s t tr wd st at_ nr (some A) ch wi sh (some (.lst (R ++ rowsB A))) fu on) S) : fslaw_11 E (leE s t tr wd st at_ nr (some A) ch wi sh (some (.lst R)) fu on) S := by
  have hs := sizeLine_eq
  have z1 : ∀ k : Nat, k ≤ 100 → k ≤ sizeLine := fun k h => by omega
  unfold fslaw_11
  repeat first | exact hn | refine ⟨hl, ?_⟩ | refine ⟨z1 _ (by simp), ?_⟩
def rowsC : List D := [pr (areaD xD (fr (-8) 1) (fr 8 1)) true, pr (areaD xD (fr 0 1) (fr 17 2)) false]
theorem le12 {R : List D} (hl : R.length + 2 ≤ sizeLine) (hn : E.nx (leE s t tr wd st at_ nr a ch wi sh (some (.obj S.length)) fu on) (S ++ [.lst (R ++ rowsC)])) : fslaw_12 E (leE s t tr wd st at_ nr a ch wi sh (some (.lst R)) fu on) S := by
  have hs := sizeLine_eq
  have z1 : ∀ k : Nat, k ≤ 100 → k ≤ sizeLine := fun k h => by omega
  unfold fslaw_12
  repeat first | exact hn | refine ⟨hl, ?_⟩ | refine ⟨z1 _ (by simp), ?_⟩
theorem le13 {n : Nat} {R : List D} (hS : S[n]? = some (.lst R)) (hl : R.length < sizeLine) (hn : E.nx (leE s t tr wd st at_ nr a ch wi sh (some (.obj n)) fu on) (S.set n (.lst (R ++ [pr (areaD (areaD piD (fr 0 1) (fr 1 1)) (fr 0 1) (fr 1 1)) false])))) : fslaw_13 E (leE s t tr wd st at_ nr a ch wi sh (some (.obj n)) fu on) S := by
  have hs := sizeLine_eq
  have z1 : ∀ k : Nat, k ≤ 100 → k ≤ sizeLine := fun k h => by omega
  simp only [fslaw_13, exprS, appE, bindF, varF, List.getElem?_cons_succ, List.getElem?_cons_zero, isLo, hS]
  repeat first | exact hn | refine ⟨z1 _ (by simp), ?_⟩
  simp only [appF, hS]
  exact ⟨hl, hn⟩
theorem le14 {n : Nat} {R : List D} (hS : S[n]? = some (.lst R)) (hl : R.length < sizeLine) (hn : E.nx (leE s t tr wd st at_ nr a ch wi sh (some (.obj n)) fu on) (S.set n (.lst (R ++ [pr (areaD (un "sqrt" xD) (fr 0 1) (fr 1 1)) false])))) : fslaw_14 E (leE s t tr wd st at_ nr a ch wi sh (some (.obj n)) fu on) S := by
  have hs := sizeLine_eq
  have z1 : ∀ k : Nat, k ≤ 100 → k ≤ sizeLine := fun k h => by omega
  simp only [fslaw_14, exprS, appE, bindF, varF, List.getElem?_cons_succ, List.getElem?_cons_zero, isLo, hS]
  repeat first | exact hn | refine ⟨z1 _ (by simp), ?_⟩
  simp only [appF, hS]
  exact ⟨hl, hn⟩
def rowsD (A : D) : List D := [pr xD false, pr (.tup [.str "pi", .int 1]) false, pr (.str "pi") false, pr .non false, pr (bi "sqrt" A A) false, pr (un "by" A) false]
theorem le15 {A : D} {n : Nat} {R : List D} (hS : S[n]? = some (.lst R)) (hl : R.length + 6 ≤ sizeLine) (hn : E.nx (leE s t tr wd st at_ nr (some A) ch wi sh (some (.lst (R ++ rowsD A))) fu on) S) : fslaw_15 E (leE s t tr wd st at_ nr (some A) ch wi sh (some (.obj n)) fu on) S := by
  have hs := sizeLine_eq
  have z1 : ∀ k : Nat, k ≤ 100 → k ≤ sizeLine := fun k h => by omega
  simp only [fslaw_15, setS, bindF, varF, List.getElem?_cons_succ, List.getElem?_cons_zero]
  refine ⟨z1 _ (by simp), z1 _ (by simp), z1 _ (by simp), z1 _ (by simp), z1 _ (by simp), z1 _ (by simp), z1 _ (by simp), z1 _ (by simp), z1 _ (by simp), z1 _ (by simp), z1 _ (by simp), ?_⟩
  simp only [newL, Bool.false_eq_true, if_false, addF, getS, hS, retF]
  exact ⟨hl, hn⟩
theorem le16 {F O : D} (hn : E.nx (leE s t tr wd st at_ nr a ch wi sh ro (some (bodyG F O)) (some O)) S) : fslaw_16 E (leE s t tr wd st at_ nr a ch wi sh ro (some F) (some O)) S := by
  have hs := sizeLine_eq
  have z1 : ∀ k : Nat, k ≤ 100 → k ≤ sizeLine := fun k h => by omega
  unfold fslaw_16
  repeat first | exact hn | refine ⟨z1 _ (by simp), ?_⟩
def rowsE (F O : D) : List D := [pr F true, pr (un "minus" F) false, pr (bi "plus" F O) false, pr (bi "root" (.tup [.int 0, .int 0, .int 0, .int 0, .int 0, .int 0, .int 0, .int 0, .int 1]) (.int 7)) true, pr (un "number" (.tup [.int 1000000000000, .int 1])) true]
theorem le17 {F O : D} {R : List D} (hl : R.length + 5 ≤ sizeLine) (hn : E.nx (leE s t tr wd st at_ nr a ch wi sh (some (.lst (R ++ rowsE F O))) (some F) (some O)) S) : fslaw_17 E (leE s t tr wd st at_ nr a ch wi sh (some (.lst R)) (some F) (some O)) S := by
  have hs := sizeLine_eq
  have z1 : ∀ k : Nat, k ≤ 100 → k ≤ sizeLine := fun k h => by omega
  unfold fslaw_17
  refine ⟨z1 _ (by simp), z1 _ (by simp), z1 _ (by simp), z1 _ (by simp), z1 _ (by simp), z1 _ (by simp), ⟨by simp, by decide, by decide, by simp⟩, z1 _ (by simp), z1 _ (by simp), z1 _ (by simp), z1 _ (by simp), ?_⟩
  simp only [bindF, powG, optF, o2I, p12, if_true, retF, consF, nilF]
  repeat first | exact hn | refine ⟨hl, ?_⟩ | refine ⟨z1 _ (by simp), ?_⟩
def rowsF (A : D) : List D := [pr (un "number" (.tup [.int 1000000000001, .int 1])) false, pr (un "number" (.tup [.int 1, .int 1000000000000])) true, pr (bi "power" A (.int 0)) true, pr (bi "root" (.tup [.int 1, .int 1]) (.int (-1))) false]
theorem le18 {A : D} {R : List D} (hl : R.length + 4 ≤ sizeLine) (hn : E.nx (leE s t tr wd st at_ nr (some A) ch wi sh (some (.lst (R ++ rowsF A))) fu on) S) : fslaw_18 E (leE s t tr wd st at_ nr (some A) ch wi sh (some (.lst R)) fu on) S := by
  have hs := sizeLine_eq
  have z1 : ∀ k : Nat, k ≤ 100 → k ≤ sizeLine := fun k h => by omega
  simp [fslaw_18, seqS, setS, retS, retN, exprS, nilS, ifS, parS, asgS, bindT, bindTs, bindF, callC, varF, retF, consF, nilF, iteV, truF, truD, notF, andF, orF, andV, orV, notV, chF, chT, bodyEnds, startE, optF, idxF, slcF, intF, noF, newL, tyD, isiT, isiB, lenB, absB, intB, gcdB, tupB, lstB, ltG, leG, gtG, geG, isG, isnG, o2I, isO, getS, addF, subF, mulF, eqG_ii, neG_ii, neG_bb, fdivG, modG, powG, raiseS, wipeE, z1, hl, p12]
  exact hn
end
end LawX

set_option Elab.async false
set_option linter.all false
set_option maxRecDepth 100000
set_option maxHeartbeats 0
namespace LawX
open PySem PySem.Spec PyProof.Rows L2 Dx
def chainD : D := minusD 11 piD
def wideD : D := bi "plus" (plusD 4 piD) (un "minus" halfD)
def sharedD : D := plusD 11 piD
def fullD : D := bodyG (plusD 4 piD) piD
def rowsAll : List D := ((((rowsA halfD chainD wideD sharedD ++ rowsB halfD) ++ rowsC) ++ [pr (areaD (areaD piD (fr 0 1) (fr 1 1)) (fr 0 1) (fr 1 1)) false]) ++ [pr (areaD (un "sqrt" xD) (fr 0 1) (fr 1 1)) false]) ++ rowsD halfD ++ rowsE fullD piD ++ rowsF halfD
theorem rowsAll_ok : ∀ d ∈ rowsAll, chk false d = true := by decide +kernel
section
variable {E : DEnds} {S : Store} {s t tr wd st at_ nr a ch wi sh ro fu on : Option D}
theorem int_pi : treeB true (areaD piD (fr 0 1) (fr 1 1)) = false := by decide +kernel
theorem le19 (hn : E.nx (leE s t tr wd st at_ nr a ch wi sh (some (.lst rowsAll)) fu on) S) : fslaw_19 (cTreeF false) (cTreeF true) E (leE s t tr wd st at_ nr a ch wi sh (some (.lst rowsAll)) fu on) S := by
  have hs := sizeLine_eq
  have z1 : ∀ k : Nat, k ≤ 100 → k ≤ sizeLine := fun k h => by omega
  simp only [fslaw_19, ifS, orF, cmpT, bindF]
  refine compF_val rowsAll (fun _ => True) (fun _ => false) id (fun Q h => ?_) trivial (z1 _ (by decide +kernel)) (fun d hd => ?_) ?_
  · simp [seqS, setS, retS, retN, exprS, nilS, ifS, parS, asgS, bindT, bindTs, bindF, callC, varF, retF, consF, nilF, iteV, truF, truD, notF, andF, orF, andV, orV, notV, chF, chT, bodyEnds, startE, optF, idxF, slcF, intF, noF, newL, tyD, isiT, isiB, lenB, absB, intB, gcdB, tupB, lstB, ltG, leG, gtG, geG, isG, isnG, o2I, isO, getS, addF, subF, mulF, eqG_ii, neG_ii, neG_bb, fdivG, modG, powG, raiseS, wipeE, itsF]; exact h
  · obtain ⟨v, bb, rfl, h1, h2⟩ := chk_form (rowsAll_ok d hd)
    refine ⟨_, rfl, fun Q h => ?_, fun h => by cases h⟩
    simp [seqS, setS, retS, retN, exprS, nilS, ifS, parS, asgS, bindT, bindTs, bindF, callC, varF, retF, consF, nilF, iteV, truF, truD, notF, andF, orF, andV, orV, notV, chF, chT, bodyEnds, startE, optF, idxF, slcF, intF, noF, newL, tyD, isiT, isiB, lenB, absB, intB, gcdB, tupB, lstB, ltG, leG, gtG, geG, isG, isnG, o2I, isO, getS, addF, subF, mulF, eqG_ii, neG_ii, neG_bb, fdivG, modG, powG, raiseS, wipeE, i0, i1]
    refine ⟨v, 100, rfl, h1, by omega, ?_⟩
    simp [seqS, setS, retS, retN, exprS, nilS, ifS, parS, asgS, bindT, bindTs, bindF, callC, varF, retF, consF, nilF, iteV, truF, truD, notF, andF, orF, andV, orV, notV, chF, chT, bodyEnds, startE, optF, idxF, slcF, intF, noF, newL, tyD, isiT, isiB, lenB, absB, intB, gcdB, tupB, lstB, ltG, leG, gtG, geG, isG, isnG, o2I, isO, getS, addF, subF, mulF, eqG_ii, neG_ii, neG_bb, fdivG, modG, powG, raiseS, wipeE, h2]
    exact h
  · rw [none_left]
    simp [seqS, setS, retS, retN, exprS, nilS, ifS, parS, asgS, bindT, bindTs, bindF, callC, varF, retF, consF, nilF, iteV, truF, truD, notF, andF, orF, andV, orV, notV, chF, chT, bodyEnds, startE, optF, idxF, slcF, intF, noF, newL, tyD, isiT, isiB, lenB, absB, intB, gcdB, tupB, lstB, ltG, leG, gtG, geG, isG, isnG, o2I, isO, getS, addF, subF, mulF, eqG_ii, neG_ii, neG_bb, fdivG, modG, powG, raiseS, wipeE]
    refine neG_of rfl rfl (by simp [depD, depDs]) (by simp [depD, depDs]) ?_
    simp [eqD, eqDs, seqS, setS, retS, retN, exprS, nilS, ifS, parS, asgS, bindT, bindTs, bindF, callC, varF, retF, consF, nilF, iteV, truF, truD, notF, andF, orF, andV, orV, notV, chF, chT, bodyEnds, startE, optF, idxF, slcF, intF, noF, newL, tyD, isiT, isiB, lenB, absB, intB, gcdB, tupB, lstB, ltG, leG, gtG, geG, isG, isnG, o2I, isO, getS, addF, subF, mulF, eqG_ii, neG_ii, neG_bb, fdivG, modG, powG, raiseS, wipeE, z1]
    refine ⟨_, 4, rfl, by decide +kernel, by decide, ?_⟩
    have e : treeB true (.tup [.str "area", .tup [.str "pi"], .tup [.int 0, .int 1], .tup [.int 1, .int 1]]) = false := int_pi
    simp [e, seqS, setS, retS, retN, exprS, nilS, ifS, parS, asgS, bindT, bindTs, bindF, callC, varF, retF, consF, nilF, iteV, truF, truD, notF, andF, orF, andV, orV, notV, chF, chT, bodyEnds, startE, optF, idxF, slcF, intF, noF, newL, tyD, isiT, isiB, lenB, absB, intB, gcdB, tupB, lstB, ltG, leG, gtG, geG, isG, isnG, o2I, isO, getS, addF, subF, mulF, eqG_ii, neG_ii, neG_bb, fdivG, modG, powG, raiseS, wipeE]
    exact hn
theorem compF_valM {fi : FG Its'} {t : Tg} {ft : FG Bool} {fe : F} {vs : List Nat} {τ : Dx.Env} {S : Store} {Q : D → Store → Prop} {E : QX} (ds : List D) (chk : Store → Prop) (p : D → Bool) (f : D → D)
    (hi : ∀ (Q : Its' → Store → Prop), Q (ds, chk) S → fi τ S Q E) (hc : chk S) (hl : ds.length ≤ sizeLine)
    (h : ∀ d ∈ ds, ∃ τ', bindT t d (wipeE τ vs) = some τ' ∧ (∀ Q : Bool → Store → Prop, Q (p d) S → ft τ' S Q noX) ∧ (p d = true → ∀ Q : D → Store → Prop, Q (f d) S → fe τ' S Q noX))
    (hq : Q (.obj S.length) (S ++ [.lst ((ds.filter p).map f)])) : compF true fi t ft fe vs τ S Q E := by
  unfold compF
  refine hi _ (compL_pure p f ds [] h hc (by simpa using hl) ?_)
  unfold newL
  rw [if_pos rfl]
  simpa using hq
def badT : List D := [.non, xD, sharedD]
theorem badT_ok : ∀ d ∈ badT, okD 100 d = true ∧ treeB false d = false := by decide +kernel
theorem le20 (hn : E.nx (leE s t tr (some (.obj S.length)) st at_ nr a ch wi (some sharedD) ro fu on) (S ++ [.lst [.str "tree", .str "tree", .str "tree"]])) : fslaw_20 cSize E (leE s t tr wd st at_ nr a ch wi (some sharedD) ro fu on) S := by
  have hs := sizeLine_eq
  have z1 : ∀ k : Nat, k ≤ 100 → k ≤ sizeLine := fun k h => by omega
  simp only [fslaw_20, setS]
  refine compF_valM badT (fun _ => True) (fun _ => true) (fun _ => .str "tree") (fun Q h => ?_) trivial (z1 _ (by decide)) (fun d hd => ⟨_, rfl, fun Q h => h, fun _ Q h => ?_⟩) hn
  · simp [seqS, setS, retS, retN, exprS, nilS, ifS, parS, asgS, bindT, bindTs, bindF, callC, varF, retF, consF, nilF, iteV, truF, truD, notF, andF, orF, andV, orV, notV, chF, chT, bodyEnds, startE, optF, idxF, slcF, intF, noF, newL, tyD, isiT, isiB, lenB, absB, intB, gcdB, tupB, lstB, ltG, leG, gtG, geG, isG, isnG, o2I, isO, getS, addF, subF, mulF, eqG_ii, neG_ii, neG_bb, fdivG, modG, powG, raiseS, wipeE, itsF, z1]; exact h
  · obtain ⟨h1, h2⟩ := badT_ok d hd
    simp [seqS, setS, retS, retN, exprS, nilS, ifS, parS, asgS, bindT, bindTs, bindF, callC, varF, retF, consF, nilF, iteV, truF, truD, notF, andF, orF, andV, orV, notV, chF, chT, bodyEnds, startE, optF, idxF, slcF, intF, noF, newL, tyD, isiT, isiB, lenB, absB, intB, gcdB, tupB, lstB, ltG, leG, gtG, geG, isG, isnG, o2I, isO, getS, addF, subF, mulF, eqG_ii, neG_ii, neG_bb, fdivG, modG, powG, raiseS, wipeE, lamF]
    refine ⟨d, 100, rfl, h1, by decide, ?_⟩
    rw [if_neg (by rw [h2]; exact Bool.false_ne_true)]
    simp [w_tree]
    exact h
theorem le_a1 {n : Nat} {R : List D} (hS : S[n]? = some (.lst R)) (hl : R.length < sizeLine) (hn : E.nx (leE s t tr (some (.obj n)) st at_ nr a ch wi sh ro fu on) (S.set n (.lst (R ++ [.str "tree"])))) :
    exprS (appE (varF 4) (lamF w_law_error "" (callE cAlg (consF (tupE (consF (str! "pi") (consF (int! 0) nilF))) nilF)))) E (leE s t tr (some (.obj n)) st at_ nr a ch wi sh ro fu on) S := by
  have hs := sizeLine_eq
  have z1 : ∀ k : Nat, k ≤ 100 → k ≤ sizeLine := fun k h => by omega
  simp only [exprS, appE, bindF, varF, List.getElem?_cons_succ, List.getElem?_cons_zero, isLo, hS]
  simp [seqS, setS, retS, retN, exprS, nilS, ifS, parS, asgS, bindT, bindTs, bindF, callC, varF, retF, consF, nilF, iteV, truF, truD, notF, andF, orF, andV, orV, notV, chF, chT, bodyEnds, startE, optF, idxF, slcF, intF, noF, newL, tyD, isiT, isiB, lenB, absB, intB, gcdB, tupB, lstB, ltG, leG, gtG, geG, isG, isnG, o2I, isO, getS, addF, subF, mulF, eqG_ii, neG_ii, neG_bb, fdivG, modG, powG, raiseS, wipeE, lamF, z1]
  refine ⟨_, 4, rfl, by decide +kernel, by decide, ?_⟩
  rw [if_neg (by decide +kernel)]
  simp [w_tree, appF, hS]
  exact ⟨hl, hn⟩
theorem le_a2 {n : Nat} {R : List D} (hS : S[n]? = some (.lst R)) (hl : R.length < sizeLine) (hn : E.nx (leE s t tr (some (.obj n)) st at_ nr a ch wi sh ro fu on) (S.set n (.lst (R ++ [.str "tree"])))) :
    exprS (appE (varF 4) (lamF w_law_error "" (callE cSort (consF non! (consF non! nilF))))) E (leE s t tr (some (.obj n)) st at_ nr a ch wi sh ro fu on) S := by
  have hs := sizeLine_eq
  have z1 : ∀ k : Nat, k ≤ 100 → k ≤ sizeLine := fun k h => by omega
  simp only [exprS, appE, bindF, varF, List.getElem?_cons_succ, List.getElem?_cons_zero, isLo, hS]
  simp [seqS, setS, retS, retN, exprS, nilS, ifS, parS, asgS, bindT, bindTs, bindF, callC, varF, retF, consF, nilF, iteV, truF, truD, notF, andF, orF, andV, orV, notV, chF, chT, bodyEnds, startE, optF, idxF, slcF, intF, noF, newL, tyD, isiT, isiB, lenB, absB, intB, gcdB, tupB, lstB, ltG, leG, gtG, geG, isG, isnG, o2I, isO, getS, addF, subF, mulF, eqG_ii, neG_ii, neG_bb, fdivG, modG, powG, raiseS, wipeE, lamF, z1]
  have e : treeB false .non = false := by decide +kernel
  refine ⟨_, _, 4, rfl, rfl, by decide, rfl, fun _ => ?_, fun z => (by rw [e] at z; cases z), fun z => (by rw [e] at z; cases z)⟩
  simp [w_tree, appF, hS]
  exact ⟨hl, hn⟩
end
end LawX

set_option Elab.async false
set_option linter.all false
set_option maxRecDepth 100000
set_option maxHeartbeats 0
set_option exponentiation.threshold 5000
namespace LawX
open PySem PySem.Spec PyProof.Rows L2 Dx
section
variable {E : DEnds} {S : Store} {s t tr wd st at_ nr a ch wi sh ro fu on : Option D}
theorem half_ok : okD 4 halfD = true ∧ treeB false halfD = true := by decide +kernel
theorem eqG_obj {n : Nat} {L : List D} {y : D} {τ : Dx.Env} {S : Store} {Q : D → Store → Prop} {E : QX} (hS : S[n]? = some (.lst L)) (h : eqG (.lst L) y τ S Q E) : eqG (.obj n) y τ S Q E := by
  have e : eqO (.obj n) y S = eqO (.lst L) y S := by
    have hg : getS S (.obj n) = .lst L := by simp [getS, hS]
    have hg2 : getS S (.lst L) = .lst L := rfl
    unfold eqO
    rw [hg, hg2]
  unfold eqG optF at h ⊢
  rw [e]
  exact h
theorem le21 {n : Nat} {Q : D → Store → Prop} (he : E.rt = Q) (hS : S[n]? = some (.lst (List.replicate 5 (.str "tree")))) (hq : Q (.bl true) S) : fslaw_21 cSort E (leE s t tr (some (.obj n)) st at_ nr (some halfD) ch wi sh ro fu on) S := by
  have hs := sizeLine_eq
  have z1 : ∀ k : Nat, k ≤ 100 → k ≤ sizeLine := fun k h => by omega
  simp [fslaw_21, seqS, setS, retS, retN, exprS, nilS, ifS, parS, asgS, bindT, bindTs, bindF, callC, varF, retF, consF, nilF, iteV, truF, truD, notF, andF, orF, andV, orV, notV, chF, chT, bodyEnds, startE, optF, idxF, slcF, intF, noF, newL, tyD, isiT, isiB, lenB, absB, intB, gcdB, tupB, lstB, ltG, leG, gtG, geG, isG, isnG, o2I, isO, getS, addF, subF, mulF, eqG_ii, neG_ii, neG_bb, fdivG, modG, powG, raiseS, wipeE, z1, lamF]
  refine eqG_obj hS (eqG_of (by decide +kernel) (by decide +kernel) (by decide +kernel) (by decide +kernel) ?_)
  have e : eqD (.lst (List.replicate 5 (.str "tree"))) (.lst [D.str "tree", D.str "tree", D.str "tree", D.str "tree", D.str "tree"]) = true := by decide +kernel
  rw [e]
  simp [seqS, setS, retS, retN, exprS, nilS, ifS, parS, asgS, bindT, bindTs, bindF, callC, varF, retF, consF, nilF, iteV, truF, truD, notF, andF, orF, andV, orV, notV, chF, chT, bodyEnds, startE, optF, idxF, slcF, intF, noF, newL, tyD, isiT, isiB, lenB, absB, intB, gcdB, tupB, lstB, ltG, leG, gtG, geG, isG, isnG, o2I, isO, getS, addF, subF, mulF, eqG_ii, neG_ii, neG_bb, fdivG, modG, powG, raiseS, wipeE]
  refine ⟨_, _, 4, rfl, half_ok.1, by decide, rfl, fun z => (by rw [half_ok.2] at z; cases z), fun _ _ => ?_, fun _ k p hk _ => ?_⟩
  · simp [w_num2]
    refine eqG_of (by decide +kernel) (by decide +kernel) (by decide) (by decide) ?_
    have e3 : eqD (.str "number") (.str "number") = true := by decide +kernel
    rw [e3, he]
    exact hq
  · injection hk with hk
    omega
end
end LawX

set_option Elab.async false
set_option linter.all false
set_option maxRecDepth 100000
set_option maxHeartbeats 0
set_option exponentiation.threshold 5000
namespace LawX
open PySem PySem.Spec PyProof.Rows L2 Dx
section
variable {E : DEnds} {S : Store} {s t tr wd st at_ nr a ch wi sh ro fu on : Option D}
theorem minus11p : minusD (0 + (rngItems 0 1 (Int.toNat 11)).length) piD = chainD := by kernel_rfl
theorem plus11p : plusD (0 + (rngItems 0 1 (Int.toNat 11)).length) piD = sharedD := by kernel_rfl
theorem plus4p : plusD (0 + (rngItems 0 1 (Int.toNat 4)).length) piD = plusD 4 piD := by kernel_rfl
theorem lc9 (hn : ∀ t, E.nx (leE s t tr wd st at_ nr a (some chainD) wi sh ro fu on) S) : forS (bindF (consF (int! 11) nilF) rng1) (.name 2) (setS 9 (tupE (consF (str! "minus") (consF (varF 9) nilF)))) E (leE s t tr wd st at_ nr a (some piD) wi sh ro fu on) S := by
  have hs := sizeLine_eq
  have z1 : ∀ k : Nat, k ≤ 100 → k ≤ sizeLine := fun k h => by omega
  unfold forS
  simp only [bindF, consF, nilF, retF, rng1]
  refine ⟨by decide, ?_⟩
  refine forL_inv (fun i τ S' => S' = S ∧ ∃ t, τ = leE s t tr wd st at_ nr a (some (minusD i piD)) wi sh ro fu on) _ 0 ⟨rfl, _, rfl⟩ ?_ ?_
  · rintro j d - τ S' K ⟨rfl, t, rfl⟩ hK
    refine ⟨trivial, leE s (some d) tr wd st at_ nr a (some (minusD (0 + j) piD)) wi sh ro fu on, rfl, ?_⟩
    have e : minusD (0 + j + 1) piD = .tup [.str "minus", minusD (0 + j) piD] := rfl
    have hK := hK (leE s (some d) tr wd st at_ nr a (some (.tup [.str "minus", minusD (0 + j) piD])) wi sh ro fu on) S' ⟨rfl, some d, by rw [e]⟩
    revert hK
    generalize minusD (0 + j) piD = mm
    intro hK
    simp [seqS, setS, retS, retN, exprS, nilS, ifS, parS, asgS, bindT, bindTs, bindF, callC, varF, retF, consF, nilF, iteV, truF, truD, notF, andF, orF, andV, orV, notV, chF, chT, bodyEnds, startE, optF, idxF, slcF, intF, noF, newL, tyD, isiT, isiB, lenB, absB, intB, gcdB, tupB, lstB, ltG, leG, gtG, geG, isG, isnG, o2I, isO, getS, addF, subF, mulF, eqG_ii, neG_ii, neG_bb, fdivG, modG, powG, raiseS, wipeE, z1]
    exact hK
  · rintro τ S' ⟨rfl, t, rfl⟩
    refine ⟨trivial, ?_⟩
    rw [minus11p]
    exact hn t
theorem lc11 (hn : ∀ t, E.nx (leE s t tr wd st at_ nr a ch wi (some sharedD) ro fu on) S) : forS (bindF (consF (int! 11) nilF) rng1) (.name 2) (setS 11 (tupE (consF (str! "plus") (consF (varF 11) (consF (varF 11) nilF))))) E (leE s t tr wd st at_ nr a ch wi (some piD) ro fu on) S := by
  have hs := sizeLine_eq
  have z1 : ∀ k : Nat, k ≤ 100 → k ≤ sizeLine := fun k h => by omega
  unfold forS
  simp only [bindF, consF, nilF, retF, rng1]
  refine ⟨by decide, ?_⟩
  refine forL_inv (fun i τ S' => S' = S ∧ ∃ t, τ = leE s t tr wd st at_ nr a ch wi (some (plusD i piD)) ro fu on) _ 0 ⟨rfl, _, rfl⟩ ?_ ?_
  · rintro j d - τ S' K ⟨rfl, t, rfl⟩ hK
    refine ⟨trivial, leE s (some d) tr wd st at_ nr a ch wi (some (plusD (0 + j) piD)) ro fu on, rfl, ?_⟩
    have e : plusD (0 + j + 1) piD = .tup [.str "plus", plusD (0 + j) piD, plusD (0 + j) piD] := rfl
    have hK := hK (leE s (some d) tr wd st at_ nr a ch wi (some (.tup [.str "plus", plusD (0 + j) piD, plusD (0 + j) piD])) ro fu on) S' ⟨rfl, some d, by rw [e]⟩
    revert hK
    generalize plusD (0 + j) piD = mm
    intro hK
    simp [seqS, setS, retS, retN, exprS, nilS, ifS, parS, asgS, bindT, bindTs, bindF, callC, varF, retF, consF, nilF, iteV, truF, truD, notF, andF, orF, andV, orV, notV, chF, chT, bodyEnds, startE, optF, idxF, slcF, intF, noF, newL, tyD, isiT, isiB, lenB, absB, intB, gcdB, tupB, lstB, ltG, leG, gtG, geG, isG, isnG, o2I, isO, getS, addF, subF, mulF, eqG_ii, neG_ii, neG_bb, fdivG, modG, powG, raiseS, wipeE, z1]
    exact hK
  · rintro τ S' ⟨rfl, t, rfl⟩
    refine ⟨trivial, ?_⟩
    rw [plus11p]
    exact hn t
theorem lc13 (hn : ∀ t, E.nx (leE s t tr wd st at_ nr a ch wi sh ro (some (plusD 4 piD)) on) S) : forS (bindF (consF (int! 4) nilF) rng1) (.name 2) (setS 13 (tupE (consF (str! "plus") (consF (varF 13) (consF (varF 13) nilF))))) E (leE s t tr wd st at_ nr a ch wi sh ro (some piD) on) S := by
  have hs := sizeLine_eq
  have z1 : ∀ k : Nat, k ≤ 100 → k ≤ sizeLine := fun k h => by omega
  unfold forS
  simp only [bindF, consF, nilF, retF, rng1]
  refine ⟨by decide, ?_⟩
  refine forL_inv (fun i τ S' => S' = S ∧ ∃ t, τ = leE s t tr wd st at_ nr a ch wi sh ro (some (plusD i piD)) on) _ 0 ⟨rfl, _, rfl⟩ ?_ ?_
  · rintro j d - τ S' K ⟨rfl, t, rfl⟩ hK
    refine ⟨trivial, leE s (some d) tr wd st at_ nr a ch wi sh ro (some (plusD (0 + j) piD)) on, rfl, ?_⟩
    have e : plusD (0 + j + 1) piD = .tup [.str "plus", plusD (0 + j) piD, plusD (0 + j) piD] := rfl
    have hK := hK (leE s (some d) tr wd st at_ nr a ch wi sh ro (some (.tup [.str "plus", plusD (0 + j) piD, plusD (0 + j) piD])) on) S' ⟨rfl, some d, by rw [e]⟩
    revert hK
    generalize plusD (0 + j) piD = mm
    intro hK
    simp [seqS, setS, retS, retN, exprS, nilS, ifS, parS, asgS, bindT, bindTs, bindF, callC, varF, retF, consF, nilF, iteV, truF, truD, notF, andF, orF, andV, orV, notV, chF, chT, bodyEnds, startE, optF, idxF, slcF, intF, noF, newL, tyD, isiT, isiB, lenB, absB, intB, gcdB, tupB, lstB, ltG, leG, gtG, geG, isG, isnG, o2I, isO, getS, addF, subF, mulF, eqG_ii, neG_ii, neG_bb, fdivG, modG, powG, raiseS, wipeE, z1]
    exact hK
  · rintro τ S' ⟨rfl, t, rfl⟩
    refine ⟨trivial, ?_⟩
    rw [plus4p]
    exact hn t
def wideN : Nat → D := fun n => if n ≤ 4 then plusD n piD else wideD
theorem wide_end : wideN (0 + (rngItems 0 1 (Int.toNat 5)).length) = wideD := by kernel_rfl
theorem wide_lt {j : Nat} (h : j < 4) : wideN (j + 1) = .tup [.str "plus", wideN j, wideN j] := by
  unfold wideN
  rw [if_pos (by omega), if_pos (by omega)]
  rfl
theorem wide_4 : wideN 5 = .tup [.str "plus", wideN 4, .tup [.str "minus", halfD]] := by kernel_rfl
theorem lc10 (hn : ∀ t, E.nx (leE s t tr wd st at_ nr (some halfD) ch (some wideD) sh ro fu on) S) : fslaw_9 E (leE s t tr wd st at_ nr (some halfD) ch (some piD) sh ro fu on) S := by
  have hs := sizeLine_eq
  have z1 : ∀ k : Nat, k ≤ 100 → k ≤ sizeLine := fun k h => by omega
  unfold fslaw_9 forS
  simp only [bindF, consF, nilF, retF, rng1]
  refine ⟨by decide, ?_⟩
  refine forL_inv (fun i τ S' => S' = S ∧ ∃ t, τ = leE s t tr wd st at_ nr (some halfD) ch (some (wideN i)) sh ro fu on) _ 0 ⟨rfl, _, rfl⟩ ?_ ?_
  · rintro j d hj τ S' K ⟨rfl, t, rfl⟩ hK
    obtain ⟨hj1, rfl⟩ := rngItems_get hj
    have hj1 : j < 5 := hj1
    rw [Nat.zero_add] at hK ⊢
    refine ⟨trivial, leE s (some (.int (0 + (j : Nat) * 1))) tr wd st at_ nr (some halfD) ch (some (wideN j)) sh ro fu on, rfl, ?_⟩
    by_cases h4 : j < 4
    · have hK := hK (leE s (some (.int (0 + (j : Nat) * 1))) tr wd st at_ nr (some halfD) ch (some (.tup [.str "plus", wideN j, wideN j])) sh ro fu on) S' ⟨rfl, _, by rw [wide_lt h4]⟩
      revert hK
      generalize wideN j = mm
      generalize halfD = hh
      intro hK
      have h5 : (j : Int) < 4 := by omega
      simp [seqS, setS, retS, retN, exprS, nilS, ifS, parS, asgS, bindT, bindTs, bindF, callC, varF, retF, consF, nilF, iteV, truF, truD, notF, andF, orF, andV, orV, notV, chF, chT, bodyEnds, startE, optF, idxF, slcF, intF, noF, newL, tyD, isiT, isiB, lenB, absB, intB, gcdB, tupB, lstB, ltG, leG, gtG, geG, isG, isnG, o2I, isO, getS, addF, subF, mulF, eqG_ii, neG_ii, neG_bb, fdivG, modG, powG, raiseS, wipeE, z1, h5]
      simpa using hK
    · obtain rfl : j = 4 := by omega
      have hK := hK (leE s (some (.int (0 + ((4 : Nat) : Int) * 1))) tr wd st at_ nr (some halfD) ch (some (.tup [.str "plus", wideN 4, .tup [.str "minus", halfD]])) sh ro fu on) S' ⟨rfl, _, by rw [wide_4]⟩
      revert hK
      generalize wideN 4 = mm
      generalize halfD = hh
      intro hK
      simp [seqS, setS, retS, retN, exprS, nilS, ifS, parS, asgS, bindT, bindTs, bindF, callC, varF, retF, consF, nilF, iteV, truF, truD, notF, andF, orF, andV, orV, notV, chF, chT, bodyEnds, startE, optF, idxF, slcF, intF, noF, newL, tyD, isiT, isiB, lenB, absB, intB, gcdB, tupB, lstB, ltG, leG, gtG, geG, isG, isnG, o2I, isO, getS, addF, subF, mulF, eqG_ii, neG_ii, neG_bb, fdivG, modG, powG, raiseS, wipeE, z1]
      simpa using hK
  · rintro τ S' ⟨rfl, t, rfl⟩
    refine ⟨trivial, ?_⟩
    rw [wide_end]
    exact hn t
theorem le_pi (hn : E.nx (leE s t tr wd st at_ nr a ch wi sh ro (some piD) (some piD)) S) : (asgS (.tup [(.name 13), (.name 14)]) (tupE (consF (tupE (consF (str! "pi") nilF)) (consF (tupE (consF (str! "pi") nilF)) nilF)))) E (leE s t tr wd st at_ nr a ch wi sh ro fu on) S := by
  have hs := sizeLine_eq
  have z1 : ∀ k : Nat, k ≤ 100 → k ≤ sizeLine := fun k h => by omega
  simp [seqS, setS, retS, retN, exprS, nilS, ifS, parS, asgS, bindT, bindTs, bindF, callC, varF, retF, consF, nilF, iteV, truF, truD, notF, andF, orF, andV, orV, notV, chF, chT, bodyEnds, startE, optF, idxF, slcF, intF, noF, newL, tyD, isiT, isiB, lenB, absB, intB, gcdB, tupB, lstB, ltG, leG, gtG, geG, isG, isnG, o2I, isO, getS, addF, subF, mulF, eqG_ii, neG_ii, neG_bb, fdivG, modG, powG, raiseS, wipeE, z1]
  exact hn
theorem set_app {S : Store} {x y : Ob} : (S ++ [x]).set S.length y = S ++ [y] := by
  rw [List.set_append_right _ _ (Nat.le_refl _)]
  simp
theorem get_app {S : Store} {x : Ob} : (S ++ [x])[S.length]? = some x := by simp
def rowsG (A C W H : D) : List D := ((((rowsA A C W H ++ rowsB A) ++ rowsC) ++ [pr (areaD (areaD piD (fr 0 1) (fr 1 1)) (fr 0 1) (fr 1 1)) false]) ++ [pr (areaD (un "sqrt" xD) (fr 0 1) (fr 1 1)) false]) ++ rowsD A
def rowsAllF (A C W H F O : D) : List D := rowsG A C W H ++ rowsE F O ++ rowsF A
theorem t1 {rest : FS} {A C W H : D} (hn : ∀ S', rest E (leE s t tr wd st at_ nr (some A) (some C) (some W) (some H) (some (.lst (rowsG A C W H))) fu on) S') :
    (seqS fslaw_10 (seqS fslaw_11 (seqS fslaw_12 (seqS fslaw_13 (seqS fslaw_14 (seqS fslaw_15 rest)))))) E (leE s t tr wd st at_ nr (some A) (some C) (some W) (some H) ro fu on) S := by
  have hs := sizeLine_eq
  have z : ∀ k : Nat, k ≤ 100 → k ≤ sizeLine := fun k h => by omega
  refine le10 (E := _) (le11 (E := _) (z _ (by simp [rowsA])) (le12 (E := _) (z _ (by simp [rowsA, rowsB])) ?_))
  refine le13 (E := _) get_app (Nat.lt_of_lt_of_le (by simp [rowsA, rowsB, rowsC] : _ < 100) (z 100 (by omega))) ?_
  rw [set_app]
  refine le14 (E := _) get_app (Nat.lt_of_lt_of_le (by simp [rowsA, rowsB, rowsC] : _ < 100) (z 100 (by omega))) ?_
  rw [set_app]
  exact le15 (E := _) get_app (z _ (by simp [rowsA, rowsB, rowsC])) (hn _)
theorem t2 {rest : FS} {A C W H F O : D} (hn : rest E (leE s t tr wd st at_ nr (some A) (some C) (some W) (some H) (some (.lst (rowsAllF A C W H (bodyG F O) O))) (some (bodyG F O)) (some O)) S) :
    (seqS fslaw_16 (seqS fslaw_17 (seqS fslaw_18 rest))) E (leE s t tr wd st at_ nr (some A) (some C) (some W) (some H) (some (.lst (rowsG A C W H))) (some F) (some O)) S := by
  have hs := sizeLine_eq
  have z : ∀ k : Nat, k ≤ 100 → k ≤ sizeLine := fun k h => by omega
  exact le16 (E := _) (le17 (E := _) (z _ (by simp [rowsG, rowsA, rowsB, rowsC, rowsD])) (le18 (E := _) (z _ (by simp [rowsG, rowsA, rowsB, rowsC, rowsD, rowsE])) hn))
theorem rowsAll_eq : rowsAll = rowsAllF halfD chainD wideD sharedD (bodyG (plusD 4 piD) piD) piD := rfl
theorem t3 {Q : D → Store → Prop} (he : E.rt = Q) (hq : ∀ S, Q (.bl true) S) : (seqS (ifS (notF (truT (callC cTrue []))) (retS (bl! false)) nilS)
    (seqS (fslaw_19 (cTreeF false) (cTreeF true))
    (seqS (fslaw_20 cSize)
    (seqS (exprS (appE (varF 4) (lamF w_law_error "" (callE cAlg (consF (tupE (consF (str! "pi") (consF (int! 0) nilF))) nilF)))))
    (seqS (exprS (appE (varF 4) (lamF w_law_error "" (callE cSort (consF non! (consF non! nilF))))))
    (fslaw_21 cSort)))))) E (leE s t tr wd st at_ nr (some halfD) ch wi (some sharedD) (some (.lst rowsAll)) fu on) S := by
  have hs := sizeLine_eq
  have z : ∀ k : Nat, k ≤ 100 → k ≤ sizeLine := fun k h => by omega
  unfold seqS
  unfold ifS
  refine ⟨rfl, ?_⟩
  refine le19 (E := _) (le20 (E := _) ?_)
  refine le_a1 (E := _) get_app (Nat.lt_of_lt_of_le (by simp : _ < 100) (z 100 (by omega))) ?_
  rw [set_app]
  refine le_a2 (E := _) get_app (Nat.lt_of_lt_of_le (by simp : _ < 100) (z 100 (by omega))) ?_
  rw [set_app]
  exact le21 (E := _) he get_app (hq _)
end
def cLaw : Ct := fun ds S Q _ => ∃ ns, ds = [.lst (scr ns)] ∧ ns.length ≤ 63 ∧ S = [] ∧ ∀ S', Q (.bl true) S'
theorem law_ok (ds : List D) (S : Store) (Q : D → Store → Prop) (E : QX) (h : cLaw ds S Q E) : fslaw cLCup cSome (cTr 3) (cTr 3) cRoll cLFrac cRight (cTreeF false) (cLParts 12) cAlg cSize cSort (cSpoilt 12) cTrue (cTreeF true) (bodyEnds Q E) (startE Nlaw ds) S := by
  obtain ⟨ns, rfl, hl, rfl, hq⟩ := h
  unfold fslaw
  refine ⟨ns, rfl, hl, rfl, fun a b => ?_⟩
  refine lw7 (E := _) ⟨a, b, rfl⟩ fun S' t tr wd st at_ nr hcup => ?_
  refine le8 (E := _) (lc9 (E := _) fun t1' => lc10 (E := _) fun t2' => lc11 (E := _) fun t3' => ?_)
  refine t1 fun S1 => ?_
  refine le_pi (E := _) (lc13 (E := _) fun t4 => ?_)
  refine t2 ?_
  rw [← rowsAll_eq]
  exact t3 rfl hq
end LawX

set_option Elab.async false
set_option linter.all false
set_option maxRecDepth 100000
set_option maxHeartbeats 0
namespace LawX
open PySem PySem.Spec PyProof.Rows L2 Dx
def fa0 : List He.Fa := [.glo "_law_cup", .glo "_law_roll", .glo "_law_some", .glo "is_tuple_of", .glo "is_whole", .glo "fits_line", .glo "is_integer", .glo "fits_any", .glo "fits_fraction", .glo "is_leaf", .glo "is_less", .glo "made", .glo "is_end", .glo "left_of", .glo "fits_tree", .glo "is_tree", .glo "need_tree", .glo "inner", .glo "parts", .glo "is_told", .glo "is_algebraic", .glo "fits_integrand", .glo "is_integrand", .glo "_law_integrands_right", .glo "_law_error", .glo "_law_is_whole", .glo "_law_common", .glo "_law_made", .glo "_law_is_any", .glo "_law_is_fraction"]
def fa1 : List He.Fa := [.glo "_law_is_line", .glo "_law_is_tree", .glo "_law_inner", .glo "_law_high", .glo "_law_parts", .glo "_law_fits", .glo "_law_right", .glo "_law_tree", .glo "_law_fraction", .glo "_law_told_tree", .glo "size_of", .glo "sort_at", .glo "_law_spoilt", .glo "law", .glo "InvalidTree", .glo "InvalidNumber", .glo "NearError", .glo "END", .glo "SMOOTH", .glo "ONE_PART", .glo "TWO_PARTS", .glo "TOLD", .free "list", .free "abs", .free "int", .free "len", .free "tuple", .free "isinstance", .free "bool", .free "all"]
def fa2 : List He.Fa := [.free "str", .free "range", .free "max", .int "DEGREE" 8, .int "COEFFICIENT" 1000000, .int "GREATEST" 1000000000000, .int "EXPONENT" 12, .int "NODES" 40, .int "HEIGHT" 12, .exc "InvalidTree", .exc "InvalidNumber", .exm "NearError" "InvalidNumber" false, .exm "NearError" "InvalidTree" false, .exm "NearError" "NearError" true, .exm "InvalidTree" "InvalidNumber" false, .exm "InvalidTree" "InvalidTree" true, .exm "InvalidNumber" "InvalidNumber" true]
def fa : List He.Fa := fa0 ++ fa1 ++ fa2
def fnl : List He.DefD := [dd "_law_cup" st_law_cup, dd "_law_roll" st_law_roll, dd "_law_some" st_law_some, dd "is_tuple_of" stis_tuple_of, dd "is_whole" stis_whole, dd "fits_line" stfits_line, dd "is_integer" stis_integer, dd "fits_any" stfits_any, dd "fits_fraction" stfits_fraction, dd "is_leaf" stis_leaf, dd "is_less" stis_less, dd "made" stmade, dd "is_end" stis_end, dd "left_of" stleft_of, dd "fits_tree" stfits_tree, dd "is_tree" stis_tree, dd "need_tree" stneed_tree, dd "inner" stinner, dd "parts" stparts, dd "is_told" stis_told, dd "is_algebraic" stis_algebraic, dd "fits_integrand" stfits_integrand, dd "is_integrand" stis_integrand, dd "_law_integrands_right" st_law_integrands_right, dd "_law_error" st_law_error, dd "_law_is_whole" st_law_is_whole, dd "_law_common" st_law_common, dd "_law_made" st_law_made, dd "_law_is_any" st_law_is_any, dd "_law_is_fraction" st_law_is_fraction, dd "_law_is_line" st_law_is_line, dd "_law_is_tree" st_law_is_tree, dd "_law_inner" st_law_inner, dd "_law_high" st_law_high, dd "_law_parts" st_law_parts, dd "_law_fits" st_law_fits, dd "_law_right" st_law_right, dd "_law_tree" st_law_tree, dd "_law_fraction" st_law_fraction, dd "_law_told_tree" st_law_told_tree, dd "size_of" stsize_of, dd "sort_at" stsort_at, dd "_law_spoilt" st_law_spoilt, dd "law" stlaw]
def tf : List He.Defn := [("law", none)]
def ex (K : PySem.W.Frag) : Bool := plainL K && (He.eqO (PySem.W.nsIn K mainGlobals "gcd") (some (some (.builtin "math.gcd"))) && (He.tupB K "END" [.int 8, .int 1] && (He.tupB K "SMOOTH" [.str "cos", .str "exp", .str "less", .str "minus", .str "number", .str "pi", .str "plus", .str "power", .str "sin", .str "times", .str "unknown"] && (He.tupB K "ONE_PART" [.str "abs", .str "atan", .str "cos", .str "exp", .str "log", .str "minus", .str "sin", .str "sqrt"] && (He.tupB K "TWO_PARTS" [.str "by", .str "least", .str "less", .str "most", .str "plus", .str "times"] && (He.tupB K "TOLD" [.str "abs", .str "by", .str "least", .str "less", .str "minus", .str "most", .str "number", .str "plus", .str "power", .str "root", .str "sqrt", .str "times"]))))))
theorem chain {P : Program} {w : World} {mg : Str → Option Value} {h : Heap} {K : PySem.W.Frag} (X : K.In h) (Gm : h.Ns mainGlobals mg) (Y : He.SaysX fa fnl [] tf ex w h K) (base : Heap) (Kb : K.In base) (Gb : base.Ns mainGlobals mg)
    (TBs : ∀ p ∈ tf, LamX.TabB base mg (He.cT K p).1 (He.cT K p).2) : Has P w ⟨K, mg, tabsOf tf K⟩ base "law" Plaw 30 cLaw := by
  have g__law_cup : mg "_law_cup" = some (.ref (He.ga K "_law_cup")) := He.glo_ok X Gm (Y.t.d.facts (f := .glo "_law_cup") (List.mem_append_left _ (List.mem_append_left _ (List.Mem.head _))))
  have g__law_roll : mg "_law_roll" = some (.ref (He.ga K "_law_roll")) := He.glo_ok X Gm (Y.t.d.facts (f := .glo "_law_roll") (List.mem_append_left _ (List.mem_append_left _ (List.Mem.tail _ (List.Mem.head _)))))
  have g__law_some : mg "_law_some" = some (.ref (He.ga K "_law_some")) := He.glo_ok X Gm (Y.t.d.facts (f := .glo "_law_some") (List.mem_append_left _ (List.mem_append_left _ (List.Mem.tail _ (List.Mem.tail _ (List.Mem.head _))))))
  have g_is_tuple_of : mg "is_tuple_of" = some (.ref (He.ga K "is_tuple_of")) := He.glo_ok X Gm (Y.t.d.facts (f := .glo "is_tuple_of") (List.mem_append_left _ (List.mem_append_left _ (List.Mem.tail _ (List.Mem.tail _ (List.Mem.tail _ (List.Mem.head _)))))))
  have g_is_whole : mg "is_whole" = some (.ref (He.ga K "is_whole")) := He.glo_ok X Gm (Y.t.d.facts (f := .glo "is_whole") (List.mem_append_left _ (List.mem_append_left _ (List.Mem.tail _ (List.Mem.tail _ (List.Mem.tail _ (List.Mem.tail _ (List.Mem.head _))))))))
  have g_fits_line : mg "fits_line" = some (.ref (He.ga K "fits_line")) := He.glo_ok X Gm (Y.t.d.facts (f := .glo "fits_line") (List.mem_append_left _ (List.mem_append_left _ (List.Mem.tail _ (List.Mem.tail _ (List.Mem.tail _ (List.Mem.tail _ (List.Mem.tail _ (List.Mem.head _)))))))))
  have g_is_integer : mg "is_integer" = some (.ref (He.ga K "is_integer")) := He.glo_ok X Gm (Y.t.d.facts (f := .glo "is_integer") (List.mem_append_left _ (List.mem_append_left _ (List.Mem.tail _ (List.Mem.tail _ (List.Mem.tail _ (List.Mem.tail _ (List.Mem.tail _ (List.Mem.tail _ (List.Mem.head _))))))))))
  have g_fits_any : mg "fits_any" = some (.ref (He.ga K "fits_any")) := He.glo_ok X Gm (Y.t.d.facts (f := .glo "fits_any") (List.mem_append_left _ (List.mem_append_left _ (List.Mem.tail _ (List.Mem.tail _ (List.Mem.tail _ (List.Mem.tail _ (List.Mem.tail _ (List.Mem.tail _ (List.Mem.tail _ (List.Mem.head _)))))))))))
  have g_fits_fraction : mg "fits_fraction" = some (.ref (He.ga K "fits_fraction")) := He.glo_ok X Gm (Y.t.d.facts (f := .glo "fits_fraction") (List.mem_append_left _ (List.mem_append_left _ (List.Mem.tail _ (List.Mem.tail _ (List.Mem.tail _ (List.Mem.tail _ (List.Mem.tail _ (List.Mem.tail _ (List.Mem.tail _ (List.Mem.tail _ (List.Mem.head _))))))))))))
  have g_is_leaf : mg "is_leaf" = some (.ref (He.ga K "is_leaf")) := He.glo_ok X Gm (Y.t.d.facts (f := .glo "is_leaf") (List.mem_append_left _ (List.mem_append_left _ (List.Mem.tail _ (List.Mem.tail _ (List.Mem.tail _ (List.Mem.tail _ (List.Mem.tail _ (List.Mem.tail _ (List.Mem.tail _ (List.Mem.tail _ (List.Mem.tail _ (List.Mem.head _)))))))))))))
  have g_is_less : mg "is_less" = some (.ref (He.ga K "is_less")) := He.glo_ok X Gm (Y.t.d.facts (f := .glo "is_less") (List.mem_append_left _ (List.mem_append_left _ (List.Mem.tail _ (List.Mem.tail _ (List.Mem.tail _ (List.Mem.tail _ (List.Mem.tail _ (List.Mem.tail _ (List.Mem.tail _ (List.Mem.tail _ (List.Mem.tail _ (List.Mem.tail _ (List.Mem.head _))))))))))))))
  have g_made : mg "made" = some (.ref (He.ga K "made")) := He.glo_ok X Gm (Y.t.d.facts (f := .glo "made") (List.mem_append_left _ (List.mem_append_left _ (List.Mem.tail _ (List.Mem.tail _ (List.Mem.tail _ (List.Mem.tail _ (List.Mem.tail _ (List.Mem.tail _ (List.Mem.tail _ (List.Mem.tail _ (List.Mem.tail _ (List.Mem.tail _ (List.Mem.tail _ (List.Mem.head _)))))))))))))))
  have g_is_end : mg "is_end" = some (.ref (He.ga K "is_end")) := He.glo_ok X Gm (Y.t.d.facts (f := .glo "is_end") (List.mem_append_left _ (List.mem_append_left _ (List.Mem.tail _ (List.Mem.tail _ (List.Mem.tail _ (List.Mem.tail _ (List.Mem.tail _ (List.Mem.tail _ (List.Mem.tail _ (List.Mem.tail _ (List.Mem.tail _ (List.Mem.tail _ (List.Mem.tail _ (List.Mem.tail _ (List.Mem.head _))))))))))))))))
  have g_left_of : mg "left_of" = some (.ref (He.ga K "left_of")) := He.glo_ok X Gm (Y.t.d.facts (f := .glo "left_of") (List.mem_append_left _ (List.mem_append_left _ (List.Mem.tail _ (List.Mem.tail _ (List.Mem.tail _ (List.Mem.tail _ (List.Mem.tail _ (List.Mem.tail _ (List.Mem.tail _ (List.Mem.tail _ (List.Mem.tail _ (List.Mem.tail _ (List.Mem.tail _ (List.Mem.tail _ (List.Mem.tail _ (List.Mem.head _)))))))))))))))))
  have g_fits_tree : mg "fits_tree" = some (.ref (He.ga K "fits_tree")) := He.glo_ok X Gm (Y.t.d.facts (f := .glo "fits_tree") (List.mem_append_left _ (List.mem_append_left _ (List.Mem.tail _ (List.Mem.tail _ (List.Mem.tail _ (List.Mem.tail _ (List.Mem.tail _ (List.Mem.tail _ (List.Mem.tail _ (List.Mem.tail _ (List.Mem.tail _ (List.Mem.tail _ (List.Mem.tail _ (List.Mem.tail _ (List.Mem.tail _ (List.Mem.tail _ (List.Mem.head _))))))))))))))))))
  have g_is_tree : mg "is_tree" = some (.ref (He.ga K "is_tree")) := He.glo_ok X Gm (Y.t.d.facts (f := .glo "is_tree") (List.mem_append_left _ (List.mem_append_left _ (List.Mem.tail _ (List.Mem.tail _ (List.Mem.tail _ (List.Mem.tail _ (List.Mem.tail _ (List.Mem.tail _ (List.Mem.tail _ (List.Mem.tail _ (List.Mem.tail _ (List.Mem.tail _ (List.Mem.tail _ (List.Mem.tail _ (List.Mem.tail _ (List.Mem.tail _ (List.Mem.tail _ (List.Mem.head _)))))))))))))))))))
  have g_need_tree : mg "need_tree" = some (.ref (He.ga K "need_tree")) := He.glo_ok X Gm (Y.t.d.facts (f := .glo "need_tree") (List.mem_append_left _ (List.mem_append_left _ (List.Mem.tail _ (List.Mem.tail _ (List.Mem.tail _ (List.Mem.tail _ (List.Mem.tail _ (List.Mem.tail _ (List.Mem.tail _ (List.Mem.tail _ (List.Mem.tail _ (List.Mem.tail _ (List.Mem.tail _ (List.Mem.tail _ (List.Mem.tail _ (List.Mem.tail _ (List.Mem.tail _ (List.Mem.tail _ (List.Mem.head _))))))))))))))))))))
  have g_inner : mg "inner" = some (.ref (He.ga K "inner")) := He.glo_ok X Gm (Y.t.d.facts (f := .glo "inner") (List.mem_append_left _ (List.mem_append_left _ (List.Mem.tail _ (List.Mem.tail _ (List.Mem.tail _ (List.Mem.tail _ (List.Mem.tail _ (List.Mem.tail _ (List.Mem.tail _ (List.Mem.tail _ (List.Mem.tail _ (List.Mem.tail _ (List.Mem.tail _ (List.Mem.tail _ (List.Mem.tail _ (List.Mem.tail _ (List.Mem.tail _ (List.Mem.tail _ (List.Mem.tail _ (List.Mem.head _)))))))))))))))))))))
  have g_parts : mg "parts" = some (.ref (He.ga K "parts")) := He.glo_ok X Gm (Y.t.d.facts (f := .glo "parts") (List.mem_append_left _ (List.mem_append_left _ (List.Mem.tail _ (List.Mem.tail _ (List.Mem.tail _ (List.Mem.tail _ (List.Mem.tail _ (List.Mem.tail _ (List.Mem.tail _ (List.Mem.tail _ (List.Mem.tail _ (List.Mem.tail _ (List.Mem.tail _ (List.Mem.tail _ (List.Mem.tail _ (List.Mem.tail _ (List.Mem.tail _ (List.Mem.tail _ (List.Mem.tail _ (List.Mem.tail _ (List.Mem.head _))))))))))))))))))))))
  have g_is_told : mg "is_told" = some (.ref (He.ga K "is_told")) := He.glo_ok X Gm (Y.t.d.facts (f := .glo "is_told") (List.mem_append_left _ (List.mem_append_left _ (List.Mem.tail _ (List.Mem.tail _ (List.Mem.tail _ (List.Mem.tail _ (List.Mem.tail _ (List.Mem.tail _ (List.Mem.tail _ (List.Mem.tail _ (List.Mem.tail _ (List.Mem.tail _ (List.Mem.tail _ (List.Mem.tail _ (List.Mem.tail _ (List.Mem.tail _ (List.Mem.tail _ (List.Mem.tail _ (List.Mem.tail _ (List.Mem.tail _ (List.Mem.tail _ (List.Mem.head _)))))))))))))))))))))))
  have g_is_algebraic : mg "is_algebraic" = some (.ref (He.ga K "is_algebraic")) := He.glo_ok X Gm (Y.t.d.facts (f := .glo "is_algebraic") (List.mem_append_left _ (List.mem_append_left _ (List.Mem.tail _ (List.Mem.tail _ (List.Mem.tail _ (List.Mem.tail _ (List.Mem.tail _ (List.Mem.tail _ (List.Mem.tail _ (List.Mem.tail _ (List.Mem.tail _ (List.Mem.tail _ (List.Mem.tail _ (List.Mem.tail _ (List.Mem.tail _ (List.Mem.tail _ (List.Mem.tail _ (List.Mem.tail _ (List.Mem.tail _ (List.Mem.tail _ (List.Mem.tail _ (List.Mem.tail _ (List.Mem.head _))))))))))))))))))))))))
  have g_fits_integrand : mg "fits_integrand" = some (.ref (He.ga K "fits_integrand")) := He.glo_ok X Gm (Y.t.d.facts (f := .glo "fits_integrand") (List.mem_append_left _ (List.mem_append_left _ (List.Mem.tail _ (List.Mem.tail _ (List.Mem.tail _ (List.Mem.tail _ (List.Mem.tail _ (List.Mem.tail _ (List.Mem.tail _ (List.Mem.tail _ (List.Mem.tail _ (List.Mem.tail _ (List.Mem.tail _ (List.Mem.tail _ (List.Mem.tail _ (List.Mem.tail _ (List.Mem.tail _ (List.Mem.tail _ (List.Mem.tail _ (List.Mem.tail _ (List.Mem.tail _ (List.Mem.tail _ (List.Mem.tail _ (List.Mem.head _)))))))))))))))))))))))))
  have g_is_integrand : mg "is_integrand" = some (.ref (He.ga K "is_integrand")) := He.glo_ok X Gm (Y.t.d.facts (f := .glo "is_integrand") (List.mem_append_left _ (List.mem_append_left _ (List.Mem.tail _ (List.Mem.tail _ (List.Mem.tail _ (List.Mem.tail _ (List.Mem.tail _ (List.Mem.tail _ (List.Mem.tail _ (List.Mem.tail _ (List.Mem.tail _ (List.Mem.tail _ (List.Mem.tail _ (List.Mem.tail _ (List.Mem.tail _ (List.Mem.tail _ (List.Mem.tail _ (List.Mem.tail _ (List.Mem.tail _ (List.Mem.tail _ (List.Mem.tail _ (List.Mem.tail _ (List.Mem.tail _ (List.Mem.tail _ (List.Mem.head _))))))))))))))))))))))))))
  have g__law_integrands_right : mg "_law_integrands_right" = some (.ref (He.ga K "_law_integrands_right")) := He.glo_ok X Gm (Y.t.d.facts (f := .glo "_law_integrands_right") (List.mem_append_left _ (List.mem_append_left _ (List.Mem.tail _ (List.Mem.tail _ (List.Mem.tail _ (List.Mem.tail _ (List.Mem.tail _ (List.Mem.tail _ (List.Mem.tail _ (List.Mem.tail _ (List.Mem.tail _ (List.Mem.tail _ (List.Mem.tail _ (List.Mem.tail _ (List.Mem.tail _ (List.Mem.tail _ (List.Mem.tail _ (List.Mem.tail _ (List.Mem.tail _ (List.Mem.tail _ (List.Mem.tail _ (List.Mem.tail _ (List.Mem.tail _ (List.Mem.tail _ (List.Mem.tail _ (List.Mem.head _)))))))))))))))))))))))))))
  have g__law_error : mg "_law_error" = some (.ref (He.ga K "_law_error")) := He.glo_ok X Gm (Y.t.d.facts (f := .glo "_law_error") (List.mem_append_left _ (List.mem_append_left _ (List.Mem.tail _ (List.Mem.tail _ (List.Mem.tail _ (List.Mem.tail _ (List.Mem.tail _ (List.Mem.tail _ (List.Mem.tail _ (List.Mem.tail _ (List.Mem.tail _ (List.Mem.tail _ (List.Mem.tail _ (List.Mem.tail _ (List.Mem.tail _ (List.Mem.tail _ (List.Mem.tail _ (List.Mem.tail _ (List.Mem.tail _ (List.Mem.tail _ (List.Mem.tail _ (List.Mem.tail _ (List.Mem.tail _ (List.Mem.tail _ (List.Mem.tail _ (List.Mem.tail _ (List.Mem.head _))))))))))))))))))))))))))))
  have g__law_is_whole : mg "_law_is_whole" = some (.ref (He.ga K "_law_is_whole")) := He.glo_ok X Gm (Y.t.d.facts (f := .glo "_law_is_whole") (List.mem_append_left _ (List.mem_append_left _ (List.Mem.tail _ (List.Mem.tail _ (List.Mem.tail _ (List.Mem.tail _ (List.Mem.tail _ (List.Mem.tail _ (List.Mem.tail _ (List.Mem.tail _ (List.Mem.tail _ (List.Mem.tail _ (List.Mem.tail _ (List.Mem.tail _ (List.Mem.tail _ (List.Mem.tail _ (List.Mem.tail _ (List.Mem.tail _ (List.Mem.tail _ (List.Mem.tail _ (List.Mem.tail _ (List.Mem.tail _ (List.Mem.tail _ (List.Mem.tail _ (List.Mem.tail _ (List.Mem.tail _ (List.Mem.tail _ (List.Mem.head _)))))))))))))))))))))))))))))
  have g__law_common : mg "_law_common" = some (.ref (He.ga K "_law_common")) := He.glo_ok X Gm (Y.t.d.facts (f := .glo "_law_common") (List.mem_append_left _ (List.mem_append_left _ (List.Mem.tail _ (List.Mem.tail _ (List.Mem.tail _ (List.Mem.tail _ (List.Mem.tail _ (List.Mem.tail _ (List.Mem.tail _ (List.Mem.tail _ (List.Mem.tail _ (List.Mem.tail _ (List.Mem.tail _ (List.Mem.tail _ (List.Mem.tail _ (List.Mem.tail _ (List.Mem.tail _ (List.Mem.tail _ (List.Mem.tail _ (List.Mem.tail _ (List.Mem.tail _ (List.Mem.tail _ (List.Mem.tail _ (List.Mem.tail _ (List.Mem.tail _ (List.Mem.tail _ (List.Mem.tail _ (List.Mem.tail _ (List.Mem.head _))))))))))))))))))))))))))))))
  have g__law_made : mg "_law_made" = some (.ref (He.ga K "_law_made")) := He.glo_ok X Gm (Y.t.d.facts (f := .glo "_law_made") (List.mem_append_left _ (List.mem_append_left _ (List.Mem.tail _ (List.Mem.tail _ (List.Mem.tail _ (List.Mem.tail _ (List.Mem.tail _ (List.Mem.tail _ (List.Mem.tail _ (List.Mem.tail _ (List.Mem.tail _ (List.Mem.tail _ (List.Mem.tail _ (List.Mem.tail _ (List.Mem.tail _ (List.Mem.tail _ (List.Mem.tail _ (List.Mem.tail _ (List.Mem.tail _ (List.Mem.tail _ (List.Mem.tail _ (List.Mem.tail _ (List.Mem.tail _ (List.Mem.tail _ (List.Mem.tail _ (List.Mem.tail _ (List.Mem.tail _ (List.Mem.tail _ (List.Mem.tail _ (List.Mem.head _)))))))))))))))))))))))))))))))
  have g__law_is_any : mg "_law_is_any" = some (.ref (He.ga K "_law_is_any")) := He.glo_ok X Gm (Y.t.d.facts (f := .glo "_law_is_any") (List.mem_append_left _ (List.mem_append_left _ (List.Mem.tail _ (List.Mem.tail _ (List.Mem.tail _ (List.Mem.tail _ (List.Mem.tail _ (List.Mem.tail _ (List.Mem.tail _ (List.Mem.tail _ (List.Mem.tail _ (List.Mem.tail _ (List.Mem.tail _ (List.Mem.tail _ (List.Mem.tail _ (List.Mem.tail _ (List.Mem.tail _ (List.Mem.tail _ (List.Mem.tail _ (List.Mem.tail _ (List.Mem.tail _ (List.Mem.tail _ (List.Mem.tail _ (List.Mem.tail _ (List.Mem.tail _ (List.Mem.tail _ (List.Mem.tail _ (List.Mem.tail _ (List.Mem.tail _ (List.Mem.tail _ (List.Mem.head _))))))))))))))))))))))))))))))))
  have g__law_is_fraction : mg "_law_is_fraction" = some (.ref (He.ga K "_law_is_fraction")) := He.glo_ok X Gm (Y.t.d.facts (f := .glo "_law_is_fraction") (List.mem_append_left _ (List.mem_append_left _ (List.Mem.tail _ (List.Mem.tail _ (List.Mem.tail _ (List.Mem.tail _ (List.Mem.tail _ (List.Mem.tail _ (List.Mem.tail _ (List.Mem.tail _ (List.Mem.tail _ (List.Mem.tail _ (List.Mem.tail _ (List.Mem.tail _ (List.Mem.tail _ (List.Mem.tail _ (List.Mem.tail _ (List.Mem.tail _ (List.Mem.tail _ (List.Mem.tail _ (List.Mem.tail _ (List.Mem.tail _ (List.Mem.tail _ (List.Mem.tail _ (List.Mem.tail _ (List.Mem.tail _ (List.Mem.tail _ (List.Mem.tail _ (List.Mem.tail _ (List.Mem.tail _ (List.Mem.tail _ (List.Mem.head _)))))))))))))))))))))))))))))))))
  have g__law_is_line : mg "_law_is_line" = some (.ref (He.ga K "_law_is_line")) := He.glo_ok X Gm (Y.t.d.facts (f := .glo "_law_is_line") (List.mem_append_left _ (List.mem_append_right _ (List.Mem.head _))))
  have g__law_is_tree : mg "_law_is_tree" = some (.ref (He.ga K "_law_is_tree")) := He.glo_ok X Gm (Y.t.d.facts (f := .glo "_law_is_tree") (List.mem_append_left _ (List.mem_append_right _ (List.Mem.tail _ (List.Mem.head _)))))
  have g__law_inner : mg "_law_inner" = some (.ref (He.ga K "_law_inner")) := He.glo_ok X Gm (Y.t.d.facts (f := .glo "_law_inner") (List.mem_append_left _ (List.mem_append_right _ (List.Mem.tail _ (List.Mem.tail _ (List.Mem.head _))))))
  have g__law_high : mg "_law_high" = some (.ref (He.ga K "_law_high")) := He.glo_ok X Gm (Y.t.d.facts (f := .glo "_law_high") (List.mem_append_left _ (List.mem_append_right _ (List.Mem.tail _ (List.Mem.tail _ (List.Mem.tail _ (List.Mem.head _)))))))
  have g__law_parts : mg "_law_parts" = some (.ref (He.ga K "_law_parts")) := He.glo_ok X Gm (Y.t.d.facts (f := .glo "_law_parts") (List.mem_append_left _ (List.mem_append_right _ (List.Mem.tail _ (List.Mem.tail _ (List.Mem.tail _ (List.Mem.tail _ (List.Mem.head _))))))))
  have g__law_fits : mg "_law_fits" = some (.ref (He.ga K "_law_fits")) := He.glo_ok X Gm (Y.t.d.facts (f := .glo "_law_fits") (List.mem_append_left _ (List.mem_append_right _ (List.Mem.tail _ (List.Mem.tail _ (List.Mem.tail _ (List.Mem.tail _ (List.Mem.tail _ (List.Mem.head _)))))))))
  have g__law_right : mg "_law_right" = some (.ref (He.ga K "_law_right")) := He.glo_ok X Gm (Y.t.d.facts (f := .glo "_law_right") (List.mem_append_left _ (List.mem_append_right _ (List.Mem.tail _ (List.Mem.tail _ (List.Mem.tail _ (List.Mem.tail _ (List.Mem.tail _ (List.Mem.tail _ (List.Mem.head _))))))))))
  have g__law_tree : mg "_law_tree" = some (.ref (He.ga K "_law_tree")) := He.glo_ok X Gm (Y.t.d.facts (f := .glo "_law_tree") (List.mem_append_left _ (List.mem_append_right _ (List.Mem.tail _ (List.Mem.tail _ (List.Mem.tail _ (List.Mem.tail _ (List.Mem.tail _ (List.Mem.tail _ (List.Mem.tail _ (List.Mem.head _)))))))))))
  have g__law_fraction : mg "_law_fraction" = some (.ref (He.ga K "_law_fraction")) := He.glo_ok X Gm (Y.t.d.facts (f := .glo "_law_fraction") (List.mem_append_left _ (List.mem_append_right _ (List.Mem.tail _ (List.Mem.tail _ (List.Mem.tail _ (List.Mem.tail _ (List.Mem.tail _ (List.Mem.tail _ (List.Mem.tail _ (List.Mem.tail _ (List.Mem.head _))))))))))))
  have g__law_told_tree : mg "_law_told_tree" = some (.ref (He.ga K "_law_told_tree")) := He.glo_ok X Gm (Y.t.d.facts (f := .glo "_law_told_tree") (List.mem_append_left _ (List.mem_append_right _ (List.Mem.tail _ (List.Mem.tail _ (List.Mem.tail _ (List.Mem.tail _ (List.Mem.tail _ (List.Mem.tail _ (List.Mem.tail _ (List.Mem.tail _ (List.Mem.tail _ (List.Mem.head _)))))))))))))
  have g_size_of : mg "size_of" = some (.ref (He.ga K "size_of")) := He.glo_ok X Gm (Y.t.d.facts (f := .glo "size_of") (List.mem_append_left _ (List.mem_append_right _ (List.Mem.tail _ (List.Mem.tail _ (List.Mem.tail _ (List.Mem.tail _ (List.Mem.tail _ (List.Mem.tail _ (List.Mem.tail _ (List.Mem.tail _ (List.Mem.tail _ (List.Mem.tail _ (List.Mem.head _))))))))))))))
  have g_sort_at : mg "sort_at" = some (.ref (He.ga K "sort_at")) := He.glo_ok X Gm (Y.t.d.facts (f := .glo "sort_at") (List.mem_append_left _ (List.mem_append_right _ (List.Mem.tail _ (List.Mem.tail _ (List.Mem.tail _ (List.Mem.tail _ (List.Mem.tail _ (List.Mem.tail _ (List.Mem.tail _ (List.Mem.tail _ (List.Mem.tail _ (List.Mem.tail _ (List.Mem.tail _ (List.Mem.head _)))))))))))))))
  have g__law_spoilt : mg "_law_spoilt" = some (.ref (He.ga K "_law_spoilt")) := He.glo_ok X Gm (Y.t.d.facts (f := .glo "_law_spoilt") (List.mem_append_left _ (List.mem_append_right _ (List.Mem.tail _ (List.Mem.tail _ (List.Mem.tail _ (List.Mem.tail _ (List.Mem.tail _ (List.Mem.tail _ (List.Mem.tail _ (List.Mem.tail _ (List.Mem.tail _ (List.Mem.tail _ (List.Mem.tail _ (List.Mem.tail _ (List.Mem.head _))))))))))))))))
  have g_law : mg "law" = some (.ref (He.ga K "law")) := He.glo_ok X Gm (Y.t.d.facts (f := .glo "law") (List.mem_append_left _ (List.mem_append_right _ (List.Mem.tail _ (List.Mem.tail _ (List.Mem.tail _ (List.Mem.tail _ (List.Mem.tail _ (List.Mem.tail _ (List.Mem.tail _ (List.Mem.tail _ (List.Mem.tail _ (List.Mem.tail _ (List.Mem.tail _ (List.Mem.tail _ (List.Mem.tail _ (List.Mem.head _)))))))))))))))))
  have g_InvalidTree : mg "InvalidTree" = some (.ref (He.ga K "InvalidTree")) := He.glo_ok X Gm (Y.t.d.facts (f := .glo "InvalidTree") (List.mem_append_left _ (List.mem_append_right _ (List.Mem.tail _ (List.Mem.tail _ (List.Mem.tail _ (List.Mem.tail _ (List.Mem.tail _ (List.Mem.tail _ (List.Mem.tail _ (List.Mem.tail _ (List.Mem.tail _ (List.Mem.tail _ (List.Mem.tail _ (List.Mem.tail _ (List.Mem.tail _ (List.Mem.tail _ (List.Mem.head _))))))))))))))))))
  have g_InvalidNumber : mg "InvalidNumber" = some (.ref (He.ga K "InvalidNumber")) := He.glo_ok X Gm (Y.t.d.facts (f := .glo "InvalidNumber") (List.mem_append_left _ (List.mem_append_right _ (List.Mem.tail _ (List.Mem.tail _ (List.Mem.tail _ (List.Mem.tail _ (List.Mem.tail _ (List.Mem.tail _ (List.Mem.tail _ (List.Mem.tail _ (List.Mem.tail _ (List.Mem.tail _ (List.Mem.tail _ (List.Mem.tail _ (List.Mem.tail _ (List.Mem.tail _ (List.Mem.tail _ (List.Mem.head _)))))))))))))))))))
  have g_NearError : mg "NearError" = some (.ref (He.ga K "NearError")) := He.glo_ok X Gm (Y.t.d.facts (f := .glo "NearError") (List.mem_append_left _ (List.mem_append_right _ (List.Mem.tail _ (List.Mem.tail _ (List.Mem.tail _ (List.Mem.tail _ (List.Mem.tail _ (List.Mem.tail _ (List.Mem.tail _ (List.Mem.tail _ (List.Mem.tail _ (List.Mem.tail _ (List.Mem.tail _ (List.Mem.tail _ (List.Mem.tail _ (List.Mem.tail _ (List.Mem.tail _ (List.Mem.tail _ (List.Mem.head _))))))))))))))))))))
  have g_END : mg "END" = some (.ref (He.ga K "END")) := He.glo_ok X Gm (Y.t.d.facts (f := .glo "END") (List.mem_append_left _ (List.mem_append_right _ (List.Mem.tail _ (List.Mem.tail _ (List.Mem.tail _ (List.Mem.tail _ (List.Mem.tail _ (List.Mem.tail _ (List.Mem.tail _ (List.Mem.tail _ (List.Mem.tail _ (List.Mem.tail _ (List.Mem.tail _ (List.Mem.tail _ (List.Mem.tail _ (List.Mem.tail _ (List.Mem.tail _ (List.Mem.tail _ (List.Mem.tail _ (List.Mem.head _)))))))))))))))))))))
  have g_SMOOTH : mg "SMOOTH" = some (.ref (He.ga K "SMOOTH")) := He.glo_ok X Gm (Y.t.d.facts (f := .glo "SMOOTH") (List.mem_append_left _ (List.mem_append_right _ (List.Mem.tail _ (List.Mem.tail _ (List.Mem.tail _ (List.Mem.tail _ (List.Mem.tail _ (List.Mem.tail _ (List.Mem.tail _ (List.Mem.tail _ (List.Mem.tail _ (List.Mem.tail _ (List.Mem.tail _ (List.Mem.tail _ (List.Mem.tail _ (List.Mem.tail _ (List.Mem.tail _ (List.Mem.tail _ (List.Mem.tail _ (List.Mem.tail _ (List.Mem.head _))))))))))))))))))))))
  have g_ONE_PART : mg "ONE_PART" = some (.ref (He.ga K "ONE_PART")) := He.glo_ok X Gm (Y.t.d.facts (f := .glo "ONE_PART") (List.mem_append_left _ (List.mem_append_right _ (List.Mem.tail _ (List.Mem.tail _ (List.Mem.tail _ (List.Mem.tail _ (List.Mem.tail _ (List.Mem.tail _ (List.Mem.tail _ (List.Mem.tail _ (List.Mem.tail _ (List.Mem.tail _ (List.Mem.tail _ (List.Mem.tail _ (List.Mem.tail _ (List.Mem.tail _ (List.Mem.tail _ (List.Mem.tail _ (List.Mem.tail _ (List.Mem.tail _ (List.Mem.tail _ (List.Mem.head _)))))))))))))))))))))))
  have g_TWO_PARTS : mg "TWO_PARTS" = some (.ref (He.ga K "TWO_PARTS")) := He.glo_ok X Gm (Y.t.d.facts (f := .glo "TWO_PARTS") (List.mem_append_left _ (List.mem_append_right _ (List.Mem.tail _ (List.Mem.tail _ (List.Mem.tail _ (List.Mem.tail _ (List.Mem.tail _ (List.Mem.tail _ (List.Mem.tail _ (List.Mem.tail _ (List.Mem.tail _ (List.Mem.tail _ (List.Mem.tail _ (List.Mem.tail _ (List.Mem.tail _ (List.Mem.tail _ (List.Mem.tail _ (List.Mem.tail _ (List.Mem.tail _ (List.Mem.tail _ (List.Mem.tail _ (List.Mem.tail _ (List.Mem.head _))))))))))))))))))))))))
  have g_TOLD : mg "TOLD" = some (.ref (He.ga K "TOLD")) := He.glo_ok X Gm (Y.t.d.facts (f := .glo "TOLD") (List.mem_append_left _ (List.mem_append_right _ (List.Mem.tail _ (List.Mem.tail _ (List.Mem.tail _ (List.Mem.tail _ (List.Mem.tail _ (List.Mem.tail _ (List.Mem.tail _ (List.Mem.tail _ (List.Mem.tail _ (List.Mem.tail _ (List.Mem.tail _ (List.Mem.tail _ (List.Mem.tail _ (List.Mem.tail _ (List.Mem.tail _ (List.Mem.tail _ (List.Mem.tail _ (List.Mem.tail _ (List.Mem.tail _ (List.Mem.tail _ (List.Mem.tail _ (List.Mem.head _)))))))))))))))))))))))))
  have b_list : mg "list" = none := He.free_ok X Gm (Y.t.d.facts (f := .free "list") (List.mem_append_left _ (List.mem_append_right _ (List.Mem.tail _ (List.Mem.tail _ (List.Mem.tail _ (List.Mem.tail _ (List.Mem.tail _ (List.Mem.tail _ (List.Mem.tail _ (List.Mem.tail _ (List.Mem.tail _ (List.Mem.tail _ (List.Mem.tail _ (List.Mem.tail _ (List.Mem.tail _ (List.Mem.tail _ (List.Mem.tail _ (List.Mem.tail _ (List.Mem.tail _ (List.Mem.tail _ (List.Mem.tail _ (List.Mem.tail _ (List.Mem.tail _ (List.Mem.tail _ (List.Mem.head _))))))))))))))))))))))))))
  have b_abs : mg "abs" = none := He.free_ok X Gm (Y.t.d.facts (f := .free "abs") (List.mem_append_left _ (List.mem_append_right _ (List.Mem.tail _ (List.Mem.tail _ (List.Mem.tail _ (List.Mem.tail _ (List.Mem.tail _ (List.Mem.tail _ (List.Mem.tail _ (List.Mem.tail _ (List.Mem.tail _ (List.Mem.tail _ (List.Mem.tail _ (List.Mem.tail _ (List.Mem.tail _ (List.Mem.tail _ (List.Mem.tail _ (List.Mem.tail _ (List.Mem.tail _ (List.Mem.tail _ (List.Mem.tail _ (List.Mem.tail _ (List.Mem.tail _ (List.Mem.tail _ (List.Mem.tail _ (List.Mem.head _)))))))))))))))))))))))))))
  have b_int : mg "int" = none := He.free_ok X Gm (Y.t.d.facts (f := .free "int") (List.mem_append_left _ (List.mem_append_right _ (List.Mem.tail _ (List.Mem.tail _ (List.Mem.tail _ (List.Mem.tail _ (List.Mem.tail _ (List.Mem.tail _ (List.Mem.tail _ (List.Mem.tail _ (List.Mem.tail _ (List.Mem.tail _ (List.Mem.tail _ (List.Mem.tail _ (List.Mem.tail _ (List.Mem.tail _ (List.Mem.tail _ (List.Mem.tail _ (List.Mem.tail _ (List.Mem.tail _ (List.Mem.tail _ (List.Mem.tail _ (List.Mem.tail _ (List.Mem.tail _ (List.Mem.tail _ (List.Mem.tail _ (List.Mem.head _))))))))))))))))))))))))))))
  have b_len : mg "len" = none := He.free_ok X Gm (Y.t.d.facts (f := .free "len") (List.mem_append_left _ (List.mem_append_right _ (List.Mem.tail _ (List.Mem.tail _ (List.Mem.tail _ (List.Mem.tail _ (List.Mem.tail _ (List.Mem.tail _ (List.Mem.tail _ (List.Mem.tail _ (List.Mem.tail _ (List.Mem.tail _ (List.Mem.tail _ (List.Mem.tail _ (List.Mem.tail _ (List.Mem.tail _ (List.Mem.tail _ (List.Mem.tail _ (List.Mem.tail _ (List.Mem.tail _ (List.Mem.tail _ (List.Mem.tail _ (List.Mem.tail _ (List.Mem.tail _ (List.Mem.tail _ (List.Mem.tail _ (List.Mem.tail _ (List.Mem.head _)))))))))))))))))))))))))))))
  have b_tuple : mg "tuple" = none := He.free_ok X Gm (Y.t.d.facts (f := .free "tuple") (List.mem_append_left _ (List.mem_append_right _ (List.Mem.tail _ (List.Mem.tail _ (List.Mem.tail _ (List.Mem.tail _ (List.Mem.tail _ (List.Mem.tail _ (List.Mem.tail _ (List.Mem.tail _ (List.Mem.tail _ (List.Mem.tail _ (List.Mem.tail _ (List.Mem.tail _ (List.Mem.tail _ (List.Mem.tail _ (List.Mem.tail _ (List.Mem.tail _ (List.Mem.tail _ (List.Mem.tail _ (List.Mem.tail _ (List.Mem.tail _ (List.Mem.tail _ (List.Mem.tail _ (List.Mem.tail _ (List.Mem.tail _ (List.Mem.tail _ (List.Mem.tail _ (List.Mem.head _))))))))))))))))))))))))))))))
  have b_isinstance : mg "isinstance" = none := He.free_ok X Gm (Y.t.d.facts (f := .free "isinstance") (List.mem_append_left _ (List.mem_append_right _ (List.Mem.tail _ (List.Mem.tail _ (List.Mem.tail _ (List.Mem.tail _ (List.Mem.tail _ (List.Mem.tail _ (List.Mem.tail _ (List.Mem.tail _ (List.Mem.tail _ (List.Mem.tail _ (List.Mem.tail _ (List.Mem.tail _ (List.Mem.tail _ (List.Mem.tail _ (List.Mem.tail _ (List.Mem.tail _ (List.Mem.tail _ (List.Mem.tail _ (List.Mem.tail _ (List.Mem.tail _ (List.Mem.tail _ (List.Mem.tail _ (List.Mem.tail _ (List.Mem.tail _ (List.Mem.tail _ (List.Mem.tail _ (List.Mem.tail _ (List.Mem.head _)))))))))))))))))))))))))))))))
  have b_bool : mg "bool" = none := He.free_ok X Gm (Y.t.d.facts (f := .free "bool") (List.mem_append_left _ (List.mem_append_right _ (List.Mem.tail _ (List.Mem.tail _ (List.Mem.tail _ (List.Mem.tail _ (List.Mem.tail _ (List.Mem.tail _ (List.Mem.tail _ (List.Mem.tail _ (List.Mem.tail _ (List.Mem.tail _ (List.Mem.tail _ (List.Mem.tail _ (List.Mem.tail _ (List.Mem.tail _ (List.Mem.tail _ (List.Mem.tail _ (List.Mem.tail _ (List.Mem.tail _ (List.Mem.tail _ (List.Mem.tail _ (List.Mem.tail _ (List.Mem.tail _ (List.Mem.tail _ (List.Mem.tail _ (List.Mem.tail _ (List.Mem.tail _ (List.Mem.tail _ (List.Mem.tail _ (List.Mem.head _))))))))))))))))))))))))))))))))
  have b_all : mg "all" = none := He.free_ok X Gm (Y.t.d.facts (f := .free "all") (List.mem_append_left _ (List.mem_append_right _ (List.Mem.tail _ (List.Mem.tail _ (List.Mem.tail _ (List.Mem.tail _ (List.Mem.tail _ (List.Mem.tail _ (List.Mem.tail _ (List.Mem.tail _ (List.Mem.tail _ (List.Mem.tail _ (List.Mem.tail _ (List.Mem.tail _ (List.Mem.tail _ (List.Mem.tail _ (List.Mem.tail _ (List.Mem.tail _ (List.Mem.tail _ (List.Mem.tail _ (List.Mem.tail _ (List.Mem.tail _ (List.Mem.tail _ (List.Mem.tail _ (List.Mem.tail _ (List.Mem.tail _ (List.Mem.tail _ (List.Mem.tail _ (List.Mem.tail _ (List.Mem.tail _ (List.Mem.tail _ (List.Mem.head _)))))))))))))))))))))))))))))))))
  have b_str : mg "str" = none := He.free_ok X Gm (Y.t.d.facts (f := .free "str") (List.mem_append_right _ (List.Mem.head _)))
  have b_range : mg "range" = none := He.free_ok X Gm (Y.t.d.facts (f := .free "range") (List.mem_append_right _ (List.Mem.tail _ (List.Mem.head _))))
  have b_max : mg "max" = none := He.free_ok X Gm (Y.t.d.facts (f := .free "max") (List.mem_append_right _ (List.Mem.tail _ (List.Mem.tail _ (List.Mem.head _)))))
  have n_DEGREE : ∃ t, mg "DEGREE" = some (.int 8 t) := He.int_ok X Gm (Y.t.d.facts (f := .int "DEGREE" 8) (List.mem_append_right _ (List.Mem.tail _ (List.Mem.tail _ (List.Mem.tail _ (List.Mem.head _))))))
  have n_COEFFICIENT : ∃ t, mg "COEFFICIENT" = some (.int 1000000 t) := He.int_ok X Gm (Y.t.d.facts (f := .int "COEFFICIENT" 1000000) (List.mem_append_right _ (List.Mem.tail _ (List.Mem.tail _ (List.Mem.tail _ (List.Mem.tail _ (List.Mem.head _)))))))
  have n_GREATEST : ∃ t, mg "GREATEST" = some (.int 1000000000000 t) := He.int_ok X Gm (Y.t.d.facts (f := .int "GREATEST" 1000000000000) (List.mem_append_right _ (List.Mem.tail _ (List.Mem.tail _ (List.Mem.tail _ (List.Mem.tail _ (List.Mem.tail _ (List.Mem.head _))))))))
  have n_EXPONENT : ∃ t, mg "EXPONENT" = some (.int 12 t) := He.int_ok X Gm (Y.t.d.facts (f := .int "EXPONENT" 12) (List.mem_append_right _ (List.Mem.tail _ (List.Mem.tail _ (List.Mem.tail _ (List.Mem.tail _ (List.Mem.tail _ (List.Mem.tail _ (List.Mem.head _)))))))))
  have n_NODES : ∃ t, mg "NODES" = some (.int 40 t) := He.int_ok X Gm (Y.t.d.facts (f := .int "NODES" 40) (List.mem_append_right _ (List.Mem.tail _ (List.Mem.tail _ (List.Mem.tail _ (List.Mem.tail _ (List.Mem.tail _ (List.Mem.tail _ (List.Mem.tail _ (List.Mem.head _))))))))))
  have n_HEIGHT : ∃ t, mg "HEIGHT" = some (.int 12 t) := He.int_ok X Gm (Y.t.d.facts (f := .int "HEIGHT" 12) (List.mem_append_right _ (List.Mem.tail _ (List.Mem.tail _ (List.Mem.tail _ (List.Mem.tail _ (List.Mem.tail _ (List.Mem.tail _ (List.Mem.tail _ (List.Mem.tail _ (List.Mem.head _)))))))))))
  have x_InvalidTree : ExcK ⟨K, mg, tabsOf tf K⟩ "InvalidTree" := ⟨_, g_InvalidTree, (He.exc_ok (Y.t.d.facts (f := .exc "InvalidTree") (List.mem_append_right _ (List.Mem.tail _ (List.Mem.tail _ (List.Mem.tail _ (List.Mem.tail _ (List.Mem.tail _ (List.Mem.tail _ (List.Mem.tail _ (List.Mem.tail _ (List.Mem.tail _ (List.Mem.head _))))))))))))).1, (He.exc_ok (Y.t.d.facts (f := .exc "InvalidTree") (List.mem_append_right _ (List.Mem.tail _ (List.Mem.tail _ (List.Mem.tail _ (List.Mem.tail _ (List.Mem.tail _ (List.Mem.tail _ (List.Mem.tail _ (List.Mem.tail _ (List.Mem.tail _ (List.Mem.head _))))))))))))).2.1, (He.exc_ok (Y.t.d.facts (f := .exc "InvalidTree") (List.mem_append_right _ (List.Mem.tail _ (List.Mem.tail _ (List.Mem.tail _ (List.Mem.tail _ (List.Mem.tail _ (List.Mem.tail _ (List.Mem.tail _ (List.Mem.tail _ (List.Mem.tail _ (List.Mem.head _))))))))))))).2.2.1, (He.exc_ok (Y.t.d.facts (f := .exc "InvalidTree") (List.mem_append_right _ (List.Mem.tail _ (List.Mem.tail _ (List.Mem.tail _ (List.Mem.tail _ (List.Mem.tail _ (List.Mem.tail _ (List.Mem.tail _ (List.Mem.tail _ (List.Mem.tail _ (List.Mem.head _))))))))))))).2.2.2⟩
  have x_InvalidNumber : ExcK ⟨K, mg, tabsOf tf K⟩ "InvalidNumber" := ⟨_, g_InvalidNumber, (He.exc_ok (Y.t.d.facts (f := .exc "InvalidNumber") (List.mem_append_right _ (List.Mem.tail _ (List.Mem.tail _ (List.Mem.tail _ (List.Mem.tail _ (List.Mem.tail _ (List.Mem.tail _ (List.Mem.tail _ (List.Mem.tail _ (List.Mem.tail _ (List.Mem.tail _ (List.Mem.head _)))))))))))))).1, (He.exc_ok (Y.t.d.facts (f := .exc "InvalidNumber") (List.mem_append_right _ (List.Mem.tail _ (List.Mem.tail _ (List.Mem.tail _ (List.Mem.tail _ (List.Mem.tail _ (List.Mem.tail _ (List.Mem.tail _ (List.Mem.tail _ (List.Mem.tail _ (List.Mem.tail _ (List.Mem.head _)))))))))))))).2.1, (He.exc_ok (Y.t.d.facts (f := .exc "InvalidNumber") (List.mem_append_right _ (List.Mem.tail _ (List.Mem.tail _ (List.Mem.tail _ (List.Mem.tail _ (List.Mem.tail _ (List.Mem.tail _ (List.Mem.tail _ (List.Mem.tail _ (List.Mem.tail _ (List.Mem.tail _ (List.Mem.head _)))))))))))))).2.2.1, (He.exc_ok (Y.t.d.facts (f := .exc "InvalidNumber") (List.mem_append_right _ (List.Mem.tail _ (List.Mem.tail _ (List.Mem.tail _ (List.Mem.tail _ (List.Mem.tail _ (List.Mem.tail _ (List.Mem.tail _ (List.Mem.tail _ (List.Mem.tail _ (List.Mem.tail _ (List.Mem.head _)))))))))))))).2.2.2⟩
  have exx := Y.more
  unfold ex at exx
  simp only [Bool.and_eq_true] at exx
  have f_gcd : mg "gcd" = some (.builtin "math.gcd") := PySem.W.mg_of X Gm (He.eqO_ok exx.2.1)
  have t_END : TupK ⟨K, mg, tabsOf tf K⟩ "END" [.int 8, .int 1] := ⟨_, [.int 8, .int 1], g_END, fun H => He.tupB_ok (vs := [.int 8, .int 1]) exx.2.2.1 H, ⟨rfl, ⟨rfl, True.intro⟩⟩⟩
  have t_SMOOTH : TupK ⟨K, mg, tabsOf tf K⟩ "SMOOTH" [.str "cos", .str "exp", .str "less", .str "minus", .str "number", .str "pi", .str "plus", .str "power", .str "sin", .str "times", .str "unknown"] := ⟨_, [.str "cos", .str "exp", .str "less", .str "minus", .str "number", .str "pi", .str "plus", .str "power", .str "sin", .str "times", .str "unknown"], g_SMOOTH, fun H => He.tupB_ok (vs := [.str "cos", .str "exp", .str "less", .str "minus", .str "number", .str "pi", .str "plus", .str "power", .str "sin", .str "times", .str "unknown"]) exx.2.2.2.1 H, ⟨rfl, ⟨rfl, ⟨rfl, ⟨rfl, ⟨rfl, ⟨rfl, ⟨rfl, ⟨rfl, ⟨rfl, ⟨rfl, ⟨rfl, True.intro⟩⟩⟩⟩⟩⟩⟩⟩⟩⟩⟩⟩
  have t_ONE_PART : TupK ⟨K, mg, tabsOf tf K⟩ "ONE_PART" [.str "abs", .str "atan", .str "cos", .str "exp", .str "log", .str "minus", .str "sin", .str "sqrt"] := ⟨_, [.str "abs", .str "atan", .str "cos", .str "exp", .str "log", .str "minus", .str "sin", .str "sqrt"], g_ONE_PART, fun H => He.tupB_ok (vs := [.str "abs", .str "atan", .str "cos", .str "exp", .str "log", .str "minus", .str "sin", .str "sqrt"]) exx.2.2.2.2.1 H, ⟨rfl, ⟨rfl, ⟨rfl, ⟨rfl, ⟨rfl, ⟨rfl, ⟨rfl, ⟨rfl, True.intro⟩⟩⟩⟩⟩⟩⟩⟩⟩
  have t_TWO_PARTS : TupK ⟨K, mg, tabsOf tf K⟩ "TWO_PARTS" [.str "by", .str "least", .str "less", .str "most", .str "plus", .str "times"] := ⟨_, [.str "by", .str "least", .str "less", .str "most", .str "plus", .str "times"], g_TWO_PARTS, fun H => He.tupB_ok (vs := [.str "by", .str "least", .str "less", .str "most", .str "plus", .str "times"]) exx.2.2.2.2.2.1 H, ⟨rfl, ⟨rfl, ⟨rfl, ⟨rfl, ⟨rfl, ⟨rfl, True.intro⟩⟩⟩⟩⟩⟩⟩
  have t_TOLD : TupK ⟨K, mg, tabsOf tf K⟩ "TOLD" [.str "abs", .str "by", .str "least", .str "less", .str "minus", .str "most", .str "number", .str "plus", .str "power", .str "root", .str "sqrt", .str "times"] := ⟨_, [.str "abs", .str "by", .str "least", .str "less", .str "minus", .str "most", .str "number", .str "plus", .str "power", .str "root", .str "sqrt", .str "times"], g_TOLD, fun H => He.tupB_ok (vs := [.str "abs", .str "by", .str "least", .str "less", .str "minus", .str "most", .str "number", .str "plus", .str "power", .str "root", .str "sqrt", .str "times"]) exx.2.2.2.2.2.2 H, ⟨rfl, ⟨rfl, ⟨rfl, ⟨rfl, ⟨rfl, ⟨rfl, ⟨rfl, ⟨rfl, ⟨rfl, ⟨rfl, ⟨rfl, ⟨rfl, True.intro⟩⟩⟩⟩⟩⟩⟩⟩⟩⟩⟩⟩⟩
  obtain ⟨fd__law_cup, D__law_cup⟩ := defs_fun (st := st_law_cup) Y.t.d (x := "_law_cup") (List.Mem.head _)
  obtain ⟨fd__law_roll, D__law_roll⟩ := defs_fun (st := st_law_roll) Y.t.d (x := "_law_roll") (List.Mem.tail _ (List.Mem.head _))
  obtain ⟨fd__law_some, D__law_some⟩ := defs_fun (st := st_law_some) Y.t.d (x := "_law_some") (List.Mem.tail _ (List.Mem.tail _ (List.Mem.head _)))
  obtain ⟨fd_is_tuple_of, D_is_tuple_of⟩ := defs_fun (st := stis_tuple_of) Y.t.d (x := "is_tuple_of") (List.Mem.tail _ (List.Mem.tail _ (List.Mem.tail _ (List.Mem.head _))))
  obtain ⟨fd_is_whole, D_is_whole⟩ := defs_fun (st := stis_whole) Y.t.d (x := "is_whole") (List.Mem.tail _ (List.Mem.tail _ (List.Mem.tail _ (List.Mem.tail _ (List.Mem.head _)))))
  obtain ⟨fd_fits_line, D_fits_line⟩ := defs_fun (st := stfits_line) Y.t.d (x := "fits_line") (List.Mem.tail _ (List.Mem.tail _ (List.Mem.tail _ (List.Mem.tail _ (List.Mem.tail _ (List.Mem.head _))))))
  obtain ⟨fd_is_integer, D_is_integer⟩ := defs_fun (st := stis_integer) Y.t.d (x := "is_integer") (List.Mem.tail _ (List.Mem.tail _ (List.Mem.tail _ (List.Mem.tail _ (List.Mem.tail _ (List.Mem.tail _ (List.Mem.head _)))))))
  obtain ⟨fd_fits_any, D_fits_any⟩ := defs_fun (st := stfits_any) Y.t.d (x := "fits_any") (List.Mem.tail _ (List.Mem.tail _ (List.Mem.tail _ (List.Mem.tail _ (List.Mem.tail _ (List.Mem.tail _ (List.Mem.tail _ (List.Mem.head _))))))))
  obtain ⟨fd_fits_fraction, D_fits_fraction⟩ := defs_fun (st := stfits_fraction) Y.t.d (x := "fits_fraction") (List.Mem.tail _ (List.Mem.tail _ (List.Mem.tail _ (List.Mem.tail _ (List.Mem.tail _ (List.Mem.tail _ (List.Mem.tail _ (List.Mem.tail _ (List.Mem.head _)))))))))
  obtain ⟨fd_is_leaf, D_is_leaf⟩ := defs_fun (st := stis_leaf) Y.t.d (x := "is_leaf") (List.Mem.tail _ (List.Mem.tail _ (List.Mem.tail _ (List.Mem.tail _ (List.Mem.tail _ (List.Mem.tail _ (List.Mem.tail _ (List.Mem.tail _ (List.Mem.tail _ (List.Mem.head _))))))))))
  obtain ⟨fd_is_less, D_is_less⟩ := defs_fun (st := stis_less) Y.t.d (x := "is_less") (List.Mem.tail _ (List.Mem.tail _ (List.Mem.tail _ (List.Mem.tail _ (List.Mem.tail _ (List.Mem.tail _ (List.Mem.tail _ (List.Mem.tail _ (List.Mem.tail _ (List.Mem.tail _ (List.Mem.head _)))))))))))
  obtain ⟨fd_made, D_made⟩ := defs_fun (st := stmade) Y.t.d (x := "made") (List.Mem.tail _ (List.Mem.tail _ (List.Mem.tail _ (List.Mem.tail _ (List.Mem.tail _ (List.Mem.tail _ (List.Mem.tail _ (List.Mem.tail _ (List.Mem.tail _ (List.Mem.tail _ (List.Mem.tail _ (List.Mem.head _))))))))))))
  obtain ⟨fd_is_end, D_is_end⟩ := defs_fun (st := stis_end) Y.t.d (x := "is_end") (List.Mem.tail _ (List.Mem.tail _ (List.Mem.tail _ (List.Mem.tail _ (List.Mem.tail _ (List.Mem.tail _ (List.Mem.tail _ (List.Mem.tail _ (List.Mem.tail _ (List.Mem.tail _ (List.Mem.tail _ (List.Mem.tail _ (List.Mem.head _)))))))))))))
  obtain ⟨fd_left_of, D_left_of⟩ := defs_fun (st := stleft_of) Y.t.d (x := "left_of") (List.Mem.tail _ (List.Mem.tail _ (List.Mem.tail _ (List.Mem.tail _ (List.Mem.tail _ (List.Mem.tail _ (List.Mem.tail _ (List.Mem.tail _ (List.Mem.tail _ (List.Mem.tail _ (List.Mem.tail _ (List.Mem.tail _ (List.Mem.tail _ (List.Mem.head _))))))))))))))
  obtain ⟨fd_fits_tree, D_fits_tree⟩ := defs_fun (st := stfits_tree) Y.t.d (x := "fits_tree") (List.Mem.tail _ (List.Mem.tail _ (List.Mem.tail _ (List.Mem.tail _ (List.Mem.tail _ (List.Mem.tail _ (List.Mem.tail _ (List.Mem.tail _ (List.Mem.tail _ (List.Mem.tail _ (List.Mem.tail _ (List.Mem.tail _ (List.Mem.tail _ (List.Mem.tail _ (List.Mem.head _)))))))))))))))
  obtain ⟨fd_is_tree, D_is_tree⟩ := defs_fun (st := stis_tree) Y.t.d (x := "is_tree") (List.Mem.tail _ (List.Mem.tail _ (List.Mem.tail _ (List.Mem.tail _ (List.Mem.tail _ (List.Mem.tail _ (List.Mem.tail _ (List.Mem.tail _ (List.Mem.tail _ (List.Mem.tail _ (List.Mem.tail _ (List.Mem.tail _ (List.Mem.tail _ (List.Mem.tail _ (List.Mem.tail _ (List.Mem.head _))))))))))))))))
  obtain ⟨fd_need_tree, D_need_tree⟩ := defs_fun (st := stneed_tree) Y.t.d (x := "need_tree") (List.Mem.tail _ (List.Mem.tail _ (List.Mem.tail _ (List.Mem.tail _ (List.Mem.tail _ (List.Mem.tail _ (List.Mem.tail _ (List.Mem.tail _ (List.Mem.tail _ (List.Mem.tail _ (List.Mem.tail _ (List.Mem.tail _ (List.Mem.tail _ (List.Mem.tail _ (List.Mem.tail _ (List.Mem.tail _ (List.Mem.head _)))))))))))))))))
  obtain ⟨fd_inner, D_inner⟩ := defs_fun (st := stinner) Y.t.d (x := "inner") (List.Mem.tail _ (List.Mem.tail _ (List.Mem.tail _ (List.Mem.tail _ (List.Mem.tail _ (List.Mem.tail _ (List.Mem.tail _ (List.Mem.tail _ (List.Mem.tail _ (List.Mem.tail _ (List.Mem.tail _ (List.Mem.tail _ (List.Mem.tail _ (List.Mem.tail _ (List.Mem.tail _ (List.Mem.tail _ (List.Mem.tail _ (List.Mem.head _))))))))))))))))))
  obtain ⟨fd_parts, D_parts⟩ := defs_fun (st := stparts) Y.t.d (x := "parts") (List.Mem.tail _ (List.Mem.tail _ (List.Mem.tail _ (List.Mem.tail _ (List.Mem.tail _ (List.Mem.tail _ (List.Mem.tail _ (List.Mem.tail _ (List.Mem.tail _ (List.Mem.tail _ (List.Mem.tail _ (List.Mem.tail _ (List.Mem.tail _ (List.Mem.tail _ (List.Mem.tail _ (List.Mem.tail _ (List.Mem.tail _ (List.Mem.tail _ (List.Mem.head _)))))))))))))))))))
  obtain ⟨fd_is_told, D_is_told⟩ := defs_fun (st := stis_told) Y.t.d (x := "is_told") (List.Mem.tail _ (List.Mem.tail _ (List.Mem.tail _ (List.Mem.tail _ (List.Mem.tail _ (List.Mem.tail _ (List.Mem.tail _ (List.Mem.tail _ (List.Mem.tail _ (List.Mem.tail _ (List.Mem.tail _ (List.Mem.tail _ (List.Mem.tail _ (List.Mem.tail _ (List.Mem.tail _ (List.Mem.tail _ (List.Mem.tail _ (List.Mem.tail _ (List.Mem.tail _ (List.Mem.head _))))))))))))))))))))
  obtain ⟨fd_is_algebraic, D_is_algebraic⟩ := defs_fun (st := stis_algebraic) Y.t.d (x := "is_algebraic") (List.Mem.tail _ (List.Mem.tail _ (List.Mem.tail _ (List.Mem.tail _ (List.Mem.tail _ (List.Mem.tail _ (List.Mem.tail _ (List.Mem.tail _ (List.Mem.tail _ (List.Mem.tail _ (List.Mem.tail _ (List.Mem.tail _ (List.Mem.tail _ (List.Mem.tail _ (List.Mem.tail _ (List.Mem.tail _ (List.Mem.tail _ (List.Mem.tail _ (List.Mem.tail _ (List.Mem.tail _ (List.Mem.head _)))))))))))))))))))))
  obtain ⟨fd_fits_integrand, D_fits_integrand⟩ := defs_fun (st := stfits_integrand) Y.t.d (x := "fits_integrand") (List.Mem.tail _ (List.Mem.tail _ (List.Mem.tail _ (List.Mem.tail _ (List.Mem.tail _ (List.Mem.tail _ (List.Mem.tail _ (List.Mem.tail _ (List.Mem.tail _ (List.Mem.tail _ (List.Mem.tail _ (List.Mem.tail _ (List.Mem.tail _ (List.Mem.tail _ (List.Mem.tail _ (List.Mem.tail _ (List.Mem.tail _ (List.Mem.tail _ (List.Mem.tail _ (List.Mem.tail _ (List.Mem.tail _ (List.Mem.head _))))))))))))))))))))))
  obtain ⟨fd_is_integrand, D_is_integrand⟩ := defs_fun (st := stis_integrand) Y.t.d (x := "is_integrand") (List.Mem.tail _ (List.Mem.tail _ (List.Mem.tail _ (List.Mem.tail _ (List.Mem.tail _ (List.Mem.tail _ (List.Mem.tail _ (List.Mem.tail _ (List.Mem.tail _ (List.Mem.tail _ (List.Mem.tail _ (List.Mem.tail _ (List.Mem.tail _ (List.Mem.tail _ (List.Mem.tail _ (List.Mem.tail _ (List.Mem.tail _ (List.Mem.tail _ (List.Mem.tail _ (List.Mem.tail _ (List.Mem.tail _ (List.Mem.tail _ (List.Mem.head _)))))))))))))))))))))))
  obtain ⟨fd__law_integrands_right, D__law_integrands_right⟩ := defs_fun (st := st_law_integrands_right) Y.t.d (x := "_law_integrands_right") (List.Mem.tail _ (List.Mem.tail _ (List.Mem.tail _ (List.Mem.tail _ (List.Mem.tail _ (List.Mem.tail _ (List.Mem.tail _ (List.Mem.tail _ (List.Mem.tail _ (List.Mem.tail _ (List.Mem.tail _ (List.Mem.tail _ (List.Mem.tail _ (List.Mem.tail _ (List.Mem.tail _ (List.Mem.tail _ (List.Mem.tail _ (List.Mem.tail _ (List.Mem.tail _ (List.Mem.tail _ (List.Mem.tail _ (List.Mem.tail _ (List.Mem.tail _ (List.Mem.head _))))))))))))))))))))))))
  obtain ⟨fd__law_error, D__law_error⟩ := defs_fun (st := st_law_error) Y.t.d (x := "_law_error") (List.Mem.tail _ (List.Mem.tail _ (List.Mem.tail _ (List.Mem.tail _ (List.Mem.tail _ (List.Mem.tail _ (List.Mem.tail _ (List.Mem.tail _ (List.Mem.tail _ (List.Mem.tail _ (List.Mem.tail _ (List.Mem.tail _ (List.Mem.tail _ (List.Mem.tail _ (List.Mem.tail _ (List.Mem.tail _ (List.Mem.tail _ (List.Mem.tail _ (List.Mem.tail _ (List.Mem.tail _ (List.Mem.tail _ (List.Mem.tail _ (List.Mem.tail _ (List.Mem.tail _ (List.Mem.head _)))))))))))))))))))))))))
  obtain ⟨fd__law_is_whole, D__law_is_whole⟩ := defs_fun (st := st_law_is_whole) Y.t.d (x := "_law_is_whole") (List.Mem.tail _ (List.Mem.tail _ (List.Mem.tail _ (List.Mem.tail _ (List.Mem.tail _ (List.Mem.tail _ (List.Mem.tail _ (List.Mem.tail _ (List.Mem.tail _ (List.Mem.tail _ (List.Mem.tail _ (List.Mem.tail _ (List.Mem.tail _ (List.Mem.tail _ (List.Mem.tail _ (List.Mem.tail _ (List.Mem.tail _ (List.Mem.tail _ (List.Mem.tail _ (List.Mem.tail _ (List.Mem.tail _ (List.Mem.tail _ (List.Mem.tail _ (List.Mem.tail _ (List.Mem.tail _ (List.Mem.head _))))))))))))))))))))))))))
  obtain ⟨fd__law_common, D__law_common⟩ := defs_fun (st := st_law_common) Y.t.d (x := "_law_common") (List.Mem.tail _ (List.Mem.tail _ (List.Mem.tail _ (List.Mem.tail _ (List.Mem.tail _ (List.Mem.tail _ (List.Mem.tail _ (List.Mem.tail _ (List.Mem.tail _ (List.Mem.tail _ (List.Mem.tail _ (List.Mem.tail _ (List.Mem.tail _ (List.Mem.tail _ (List.Mem.tail _ (List.Mem.tail _ (List.Mem.tail _ (List.Mem.tail _ (List.Mem.tail _ (List.Mem.tail _ (List.Mem.tail _ (List.Mem.tail _ (List.Mem.tail _ (List.Mem.tail _ (List.Mem.tail _ (List.Mem.tail _ (List.Mem.head _)))))))))))))))))))))))))))
  obtain ⟨fd__law_made, D__law_made⟩ := defs_fun (st := st_law_made) Y.t.d (x := "_law_made") (List.Mem.tail _ (List.Mem.tail _ (List.Mem.tail _ (List.Mem.tail _ (List.Mem.tail _ (List.Mem.tail _ (List.Mem.tail _ (List.Mem.tail _ (List.Mem.tail _ (List.Mem.tail _ (List.Mem.tail _ (List.Mem.tail _ (List.Mem.tail _ (List.Mem.tail _ (List.Mem.tail _ (List.Mem.tail _ (List.Mem.tail _ (List.Mem.tail _ (List.Mem.tail _ (List.Mem.tail _ (List.Mem.tail _ (List.Mem.tail _ (List.Mem.tail _ (List.Mem.tail _ (List.Mem.tail _ (List.Mem.tail _ (List.Mem.tail _ (List.Mem.head _))))))))))))))))))))))))))))
  obtain ⟨fd__law_is_any, D__law_is_any⟩ := defs_fun (st := st_law_is_any) Y.t.d (x := "_law_is_any") (List.Mem.tail _ (List.Mem.tail _ (List.Mem.tail _ (List.Mem.tail _ (List.Mem.tail _ (List.Mem.tail _ (List.Mem.tail _ (List.Mem.tail _ (List.Mem.tail _ (List.Mem.tail _ (List.Mem.tail _ (List.Mem.tail _ (List.Mem.tail _ (List.Mem.tail _ (List.Mem.tail _ (List.Mem.tail _ (List.Mem.tail _ (List.Mem.tail _ (List.Mem.tail _ (List.Mem.tail _ (List.Mem.tail _ (List.Mem.tail _ (List.Mem.tail _ (List.Mem.tail _ (List.Mem.tail _ (List.Mem.tail _ (List.Mem.tail _ (List.Mem.tail _ (List.Mem.head _)))))))))))))))))))))))))))))
  obtain ⟨fd__law_is_fraction, D__law_is_fraction⟩ := defs_fun (st := st_law_is_fraction) Y.t.d (x := "_law_is_fraction") (List.Mem.tail _ (List.Mem.tail _ (List.Mem.tail _ (List.Mem.tail _ (List.Mem.tail _ (List.Mem.tail _ (List.Mem.tail _ (List.Mem.tail _ (List.Mem.tail _ (List.Mem.tail _ (List.Mem.tail _ (List.Mem.tail _ (List.Mem.tail _ (List.Mem.tail _ (List.Mem.tail _ (List.Mem.tail _ (List.Mem.tail _ (List.Mem.tail _ (List.Mem.tail _ (List.Mem.tail _ (List.Mem.tail _ (List.Mem.tail _ (List.Mem.tail _ (List.Mem.tail _ (List.Mem.tail _ (List.Mem.tail _ (List.Mem.tail _ (List.Mem.tail _ (List.Mem.tail _ (List.Mem.head _))))))))))))))))))))))))))))))
  obtain ⟨fd__law_is_line, D__law_is_line⟩ := defs_fun (st := st_law_is_line) Y.t.d (x := "_law_is_line") (List.Mem.tail _ (List.Mem.tail _ (List.Mem.tail _ (List.Mem.tail _ (List.Mem.tail _ (List.Mem.tail _ (List.Mem.tail _ (List.Mem.tail _ (List.Mem.tail _ (List.Mem.tail _ (List.Mem.tail _ (List.Mem.tail _ (List.Mem.tail _ (List.Mem.tail _ (List.Mem.tail _ (List.Mem.tail _ (List.Mem.tail _ (List.Mem.tail _ (List.Mem.tail _ (List.Mem.tail _ (List.Mem.tail _ (List.Mem.tail _ (List.Mem.tail _ (List.Mem.tail _ (List.Mem.tail _ (List.Mem.tail _ (List.Mem.tail _ (List.Mem.tail _ (List.Mem.tail _ (List.Mem.tail _ (List.Mem.head _)))))))))))))))))))))))))))))))
  obtain ⟨fd__law_is_tree, D__law_is_tree⟩ := defs_fun (st := st_law_is_tree) Y.t.d (x := "_law_is_tree") (List.Mem.tail _ (List.Mem.tail _ (List.Mem.tail _ (List.Mem.tail _ (List.Mem.tail _ (List.Mem.tail _ (List.Mem.tail _ (List.Mem.tail _ (List.Mem.tail _ (List.Mem.tail _ (List.Mem.tail _ (List.Mem.tail _ (List.Mem.tail _ (List.Mem.tail _ (List.Mem.tail _ (List.Mem.tail _ (List.Mem.tail _ (List.Mem.tail _ (List.Mem.tail _ (List.Mem.tail _ (List.Mem.tail _ (List.Mem.tail _ (List.Mem.tail _ (List.Mem.tail _ (List.Mem.tail _ (List.Mem.tail _ (List.Mem.tail _ (List.Mem.tail _ (List.Mem.tail _ (List.Mem.tail _ (List.Mem.tail _ (List.Mem.head _))))))))))))))))))))))))))))))))
  obtain ⟨fd__law_inner, D__law_inner⟩ := defs_fun (st := st_law_inner) Y.t.d (x := "_law_inner") (List.Mem.tail _ (List.Mem.tail _ (List.Mem.tail _ (List.Mem.tail _ (List.Mem.tail _ (List.Mem.tail _ (List.Mem.tail _ (List.Mem.tail _ (List.Mem.tail _ (List.Mem.tail _ (List.Mem.tail _ (List.Mem.tail _ (List.Mem.tail _ (List.Mem.tail _ (List.Mem.tail _ (List.Mem.tail _ (List.Mem.tail _ (List.Mem.tail _ (List.Mem.tail _ (List.Mem.tail _ (List.Mem.tail _ (List.Mem.tail _ (List.Mem.tail _ (List.Mem.tail _ (List.Mem.tail _ (List.Mem.tail _ (List.Mem.tail _ (List.Mem.tail _ (List.Mem.tail _ (List.Mem.tail _ (List.Mem.tail _ (List.Mem.tail _ (List.Mem.head _)))))))))))))))))))))))))))))))))
  obtain ⟨fd__law_high, D__law_high⟩ := defs_fun (st := st_law_high) Y.t.d (x := "_law_high") (List.Mem.tail _ (List.Mem.tail _ (List.Mem.tail _ (List.Mem.tail _ (List.Mem.tail _ (List.Mem.tail _ (List.Mem.tail _ (List.Mem.tail _ (List.Mem.tail _ (List.Mem.tail _ (List.Mem.tail _ (List.Mem.tail _ (List.Mem.tail _ (List.Mem.tail _ (List.Mem.tail _ (List.Mem.tail _ (List.Mem.tail _ (List.Mem.tail _ (List.Mem.tail _ (List.Mem.tail _ (List.Mem.tail _ (List.Mem.tail _ (List.Mem.tail _ (List.Mem.tail _ (List.Mem.tail _ (List.Mem.tail _ (List.Mem.tail _ (List.Mem.tail _ (List.Mem.tail _ (List.Mem.tail _ (List.Mem.tail _ (List.Mem.tail _ (List.Mem.tail _ (List.Mem.head _))))))))))))))))))))))))))))))))))
  obtain ⟨fd__law_parts, D__law_parts⟩ := defs_fun (st := st_law_parts) Y.t.d (x := "_law_parts") (List.Mem.tail _ (List.Mem.tail _ (List.Mem.tail _ (List.Mem.tail _ (List.Mem.tail _ (List.Mem.tail _ (List.Mem.tail _ (List.Mem.tail _ (List.Mem.tail _ (List.Mem.tail _ (List.Mem.tail _ (List.Mem.tail _ (List.Mem.tail _ (List.Mem.tail _ (List.Mem.tail _ (List.Mem.tail _ (List.Mem.tail _ (List.Mem.tail _ (List.Mem.tail _ (List.Mem.tail _ (List.Mem.tail _ (List.Mem.tail _ (List.Mem.tail _ (List.Mem.tail _ (List.Mem.tail _ (List.Mem.tail _ (List.Mem.tail _ (List.Mem.tail _ (List.Mem.tail _ (List.Mem.tail _ (List.Mem.tail _ (List.Mem.tail _ (List.Mem.tail _ (List.Mem.tail _ (List.Mem.head _)))))))))))))))))))))))))))))))))))
  obtain ⟨fd__law_fits, D__law_fits⟩ := defs_fun (st := st_law_fits) Y.t.d (x := "_law_fits") (List.Mem.tail _ (List.Mem.tail _ (List.Mem.tail _ (List.Mem.tail _ (List.Mem.tail _ (List.Mem.tail _ (List.Mem.tail _ (List.Mem.tail _ (List.Mem.tail _ (List.Mem.tail _ (List.Mem.tail _ (List.Mem.tail _ (List.Mem.tail _ (List.Mem.tail _ (List.Mem.tail _ (List.Mem.tail _ (List.Mem.tail _ (List.Mem.tail _ (List.Mem.tail _ (List.Mem.tail _ (List.Mem.tail _ (List.Mem.tail _ (List.Mem.tail _ (List.Mem.tail _ (List.Mem.tail _ (List.Mem.tail _ (List.Mem.tail _ (List.Mem.tail _ (List.Mem.tail _ (List.Mem.tail _ (List.Mem.tail _ (List.Mem.tail _ (List.Mem.tail _ (List.Mem.tail _ (List.Mem.tail _ (List.Mem.head _))))))))))))))))))))))))))))))))))))
  obtain ⟨fd__law_right, D__law_right⟩ := defs_fun (st := st_law_right) Y.t.d (x := "_law_right") (List.Mem.tail _ (List.Mem.tail _ (List.Mem.tail _ (List.Mem.tail _ (List.Mem.tail _ (List.Mem.tail _ (List.Mem.tail _ (List.Mem.tail _ (List.Mem.tail _ (List.Mem.tail _ (List.Mem.tail _ (List.Mem.tail _ (List.Mem.tail _ (List.Mem.tail _ (List.Mem.tail _ (List.Mem.tail _ (List.Mem.tail _ (List.Mem.tail _ (List.Mem.tail _ (List.Mem.tail _ (List.Mem.tail _ (List.Mem.tail _ (List.Mem.tail _ (List.Mem.tail _ (List.Mem.tail _ (List.Mem.tail _ (List.Mem.tail _ (List.Mem.tail _ (List.Mem.tail _ (List.Mem.tail _ (List.Mem.tail _ (List.Mem.tail _ (List.Mem.tail _ (List.Mem.tail _ (List.Mem.tail _ (List.Mem.tail _ (List.Mem.head _)))))))))))))))))))))))))))))))))))))
  obtain ⟨fd__law_tree, D__law_tree⟩ := defs_fun (st := st_law_tree) Y.t.d (x := "_law_tree") (List.Mem.tail _ (List.Mem.tail _ (List.Mem.tail _ (List.Mem.tail _ (List.Mem.tail _ (List.Mem.tail _ (List.Mem.tail _ (List.Mem.tail _ (List.Mem.tail _ (List.Mem.tail _ (List.Mem.tail _ (List.Mem.tail _ (List.Mem.tail _ (List.Mem.tail _ (List.Mem.tail _ (List.Mem.tail _ (List.Mem.tail _ (List.Mem.tail _ (List.Mem.tail _ (List.Mem.tail _ (List.Mem.tail _ (List.Mem.tail _ (List.Mem.tail _ (List.Mem.tail _ (List.Mem.tail _ (List.Mem.tail _ (List.Mem.tail _ (List.Mem.tail _ (List.Mem.tail _ (List.Mem.tail _ (List.Mem.tail _ (List.Mem.tail _ (List.Mem.tail _ (List.Mem.tail _ (List.Mem.tail _ (List.Mem.tail _ (List.Mem.tail _ (List.Mem.head _))))))))))))))))))))))))))))))))))))))
  obtain ⟨fd__law_fraction, D__law_fraction⟩ := defs_fun (st := st_law_fraction) Y.t.d (x := "_law_fraction") (List.Mem.tail _ (List.Mem.tail _ (List.Mem.tail _ (List.Mem.tail _ (List.Mem.tail _ (List.Mem.tail _ (List.Mem.tail _ (List.Mem.tail _ (List.Mem.tail _ (List.Mem.tail _ (List.Mem.tail _ (List.Mem.tail _ (List.Mem.tail _ (List.Mem.tail _ (List.Mem.tail _ (List.Mem.tail _ (List.Mem.tail _ (List.Mem.tail _ (List.Mem.tail _ (List.Mem.tail _ (List.Mem.tail _ (List.Mem.tail _ (List.Mem.tail _ (List.Mem.tail _ (List.Mem.tail _ (List.Mem.tail _ (List.Mem.tail _ (List.Mem.tail _ (List.Mem.tail _ (List.Mem.tail _ (List.Mem.tail _ (List.Mem.tail _ (List.Mem.tail _ (List.Mem.tail _ (List.Mem.tail _ (List.Mem.tail _ (List.Mem.tail _ (List.Mem.tail _ (List.Mem.head _)))))))))))))))))))))))))))))))))))))))
  obtain ⟨fd__law_told_tree, D__law_told_tree⟩ := defs_fun (st := st_law_told_tree) Y.t.d (x := "_law_told_tree") (List.Mem.tail _ (List.Mem.tail _ (List.Mem.tail _ (List.Mem.tail _ (List.Mem.tail _ (List.Mem.tail _ (List.Mem.tail _ (List.Mem.tail _ (List.Mem.tail _ (List.Mem.tail _ (List.Mem.tail _ (List.Mem.tail _ (List.Mem.tail _ (List.Mem.tail _ (List.Mem.tail _ (List.Mem.tail _ (List.Mem.tail _ (List.Mem.tail _ (List.Mem.tail _ (List.Mem.tail _ (List.Mem.tail _ (List.Mem.tail _ (List.Mem.tail _ (List.Mem.tail _ (List.Mem.tail _ (List.Mem.tail _ (List.Mem.tail _ (List.Mem.tail _ (List.Mem.tail _ (List.Mem.tail _ (List.Mem.tail _ (List.Mem.tail _ (List.Mem.tail _ (List.Mem.tail _ (List.Mem.tail _ (List.Mem.tail _ (List.Mem.tail _ (List.Mem.tail _ (List.Mem.tail _ (List.Mem.head _))))))))))))))))))))))))))))))))))))))))
  obtain ⟨fd_size_of, D_size_of⟩ := defs_fun (st := stsize_of) Y.t.d (x := "size_of") (List.Mem.tail _ (List.Mem.tail _ (List.Mem.tail _ (List.Mem.tail _ (List.Mem.tail _ (List.Mem.tail _ (List.Mem.tail _ (List.Mem.tail _ (List.Mem.tail _ (List.Mem.tail _ (List.Mem.tail _ (List.Mem.tail _ (List.Mem.tail _ (List.Mem.tail _ (List.Mem.tail _ (List.Mem.tail _ (List.Mem.tail _ (List.Mem.tail _ (List.Mem.tail _ (List.Mem.tail _ (List.Mem.tail _ (List.Mem.tail _ (List.Mem.tail _ (List.Mem.tail _ (List.Mem.tail _ (List.Mem.tail _ (List.Mem.tail _ (List.Mem.tail _ (List.Mem.tail _ (List.Mem.tail _ (List.Mem.tail _ (List.Mem.tail _ (List.Mem.tail _ (List.Mem.tail _ (List.Mem.tail _ (List.Mem.tail _ (List.Mem.tail _ (List.Mem.tail _ (List.Mem.tail _ (List.Mem.tail _ (List.Mem.head _)))))))))))))))))))))))))))))))))))))))))
  obtain ⟨fd_sort_at, D_sort_at⟩ := defs_fun (st := stsort_at) Y.t.d (x := "sort_at") (List.Mem.tail _ (List.Mem.tail _ (List.Mem.tail _ (List.Mem.tail _ (List.Mem.tail _ (List.Mem.tail _ (List.Mem.tail _ (List.Mem.tail _ (List.Mem.tail _ (List.Mem.tail _ (List.Mem.tail _ (List.Mem.tail _ (List.Mem.tail _ (List.Mem.tail _ (List.Mem.tail _ (List.Mem.tail _ (List.Mem.tail _ (List.Mem.tail _ (List.Mem.tail _ (List.Mem.tail _ (List.Mem.tail _ (List.Mem.tail _ (List.Mem.tail _ (List.Mem.tail _ (List.Mem.tail _ (List.Mem.tail _ (List.Mem.tail _ (List.Mem.tail _ (List.Mem.tail _ (List.Mem.tail _ (List.Mem.tail _ (List.Mem.tail _ (List.Mem.tail _ (List.Mem.tail _ (List.Mem.tail _ (List.Mem.tail _ (List.Mem.tail _ (List.Mem.tail _ (List.Mem.tail _ (List.Mem.tail _ (List.Mem.tail _ (List.Mem.head _))))))))))))))))))))))))))))))))))))))))))
  obtain ⟨fd__law_spoilt, D__law_spoilt⟩ := defs_fun (st := st_law_spoilt) Y.t.d (x := "_law_spoilt") (List.Mem.tail _ (List.Mem.tail _ (List.Mem.tail _ (List.Mem.tail _ (List.Mem.tail _ (List.Mem.tail _ (List.Mem.tail _ (List.Mem.tail _ (List.Mem.tail _ (List.Mem.tail _ (List.Mem.tail _ (List.Mem.tail _ (List.Mem.tail _ (List.Mem.tail _ (List.Mem.tail _ (List.Mem.tail _ (List.Mem.tail _ (List.Mem.tail _ (List.Mem.tail _ (List.Mem.tail _ (List.Mem.tail _ (List.Mem.tail _ (List.Mem.tail _ (List.Mem.tail _ (List.Mem.tail _ (List.Mem.tail _ (List.Mem.tail _ (List.Mem.tail _ (List.Mem.tail _ (List.Mem.tail _ (List.Mem.tail _ (List.Mem.tail _ (List.Mem.tail _ (List.Mem.tail _ (List.Mem.tail _ (List.Mem.tail _ (List.Mem.tail _ (List.Mem.tail _ (List.Mem.tail _ (List.Mem.tail _ (List.Mem.tail _ (List.Mem.tail _ (List.Mem.head _)))))))))))))))))))))))))))))))))))))))))))
  obtain ⟨fd_law, D_law⟩ := defs_fun (st := stlaw) Y.t.d (x := "law") (List.Mem.tail _ (List.Mem.tail _ (List.Mem.tail _ (List.Mem.tail _ (List.Mem.tail _ (List.Mem.tail _ (List.Mem.tail _ (List.Mem.tail _ (List.Mem.tail _ (List.Mem.tail _ (List.Mem.tail _ (List.Mem.tail _ (List.Mem.tail _ (List.Mem.tail _ (List.Mem.tail _ (List.Mem.tail _ (List.Mem.tail _ (List.Mem.tail _ (List.Mem.tail _ (List.Mem.tail _ (List.Mem.tail _ (List.Mem.tail _ (List.Mem.tail _ (List.Mem.tail _ (List.Mem.tail _ (List.Mem.tail _ (List.Mem.tail _ (List.Mem.tail _ (List.Mem.tail _ (List.Mem.tail _ (List.Mem.tail _ (List.Mem.tail _ (List.Mem.tail _ (List.Mem.tail _ (List.Mem.tail _ (List.Mem.tail _ (List.Mem.tail _ (List.Mem.tail _ (List.Mem.tail _ (List.Mem.tail _ (List.Mem.tail _ (List.Mem.tail _ (List.Mem.tail _ (List.Mem.head _))))))))))))))))))))))))))))))))))))))))))))
  have T_law_error : Teller ⟨K, mg, tabsOf tf K⟩ "_law_error" st_law_error w_law_error hs_law_error := by
    refine ⟨g__law_error, ⟨_, D__law_error⟩, fun x r C hw hC Q H hq => ?_, fun q hq => ?_⟩
    · have hm := PySem.mem_of_lookup hw
      simp only [List.mem_cons, Prod.mk.injEq, List.not_mem_nil, or_false] at hm
      rcases hm with ⟨rfl, rfl⟩ | ⟨rfl, rfl⟩ | ⟨rfl, rfl⟩
      · have e := hC.symm.trans g_NearError; cases e; exact ⟨false, He.exm_ok (Y.t.d.facts (f := .exm "NearError" "InvalidNumber" false) (List.mem_append_right _ (List.Mem.tail _ (List.Mem.tail _ (List.Mem.tail _ (List.Mem.tail _ (List.Mem.tail _ (List.Mem.tail _ (List.Mem.tail _ (List.Mem.tail _ (List.Mem.tail _ (List.Mem.tail _ (List.Mem.tail _ (List.Mem.head _)))))))))))))), fun z => Bool.noConfusion z, fun _ => ⟨false, He.exm_ok (Y.t.d.facts (f := .exm "NearError" "InvalidTree" false) (List.mem_append_right _ (List.Mem.tail _ (List.Mem.tail _ (List.Mem.tail _ (List.Mem.tail _ (List.Mem.tail _ (List.Mem.tail _ (List.Mem.tail _ (List.Mem.tail _ (List.Mem.tail _ (List.Mem.tail _ (List.Mem.tail _ (List.Mem.tail _ (List.Mem.head _))))))))))))))), fun z => Bool.noConfusion z, fun _ => ⟨true, He.exm_ok (Y.t.d.facts (f := .exm "NearError" "NearError" true) (List.mem_append_right _ (List.Mem.tail _ (List.Mem.tail _ (List.Mem.tail _ (List.Mem.tail _ (List.Mem.tail _ (List.Mem.tail _ (List.Mem.tail _ (List.Mem.tail _ (List.Mem.tail _ (List.Mem.tail _ (List.Mem.tail _ (List.Mem.tail _ (List.Mem.tail _ (List.Mem.head _)))))))))))))))), fun _ => hq, fun z => Bool.noConfusion z⟩⟩⟩
      · have e := hC.symm.trans g_InvalidTree; cases e; exact ⟨false, He.exm_ok (Y.t.d.facts (f := .exm "InvalidTree" "InvalidNumber" false) (List.mem_append_right _ (List.Mem.tail _ (List.Mem.tail _ (List.Mem.tail _ (List.Mem.tail _ (List.Mem.tail _ (List.Mem.tail _ (List.Mem.tail _ (List.Mem.tail _ (List.Mem.tail _ (List.Mem.tail _ (List.Mem.tail _ (List.Mem.tail _ (List.Mem.tail _ (List.Mem.tail _ (List.Mem.head _))))))))))))))))), fun z => Bool.noConfusion z, fun _ => ⟨true, He.exm_ok (Y.t.d.facts (f := .exm "InvalidTree" "InvalidTree" true) (List.mem_append_right _ (List.Mem.tail _ (List.Mem.tail _ (List.Mem.tail _ (List.Mem.tail _ (List.Mem.tail _ (List.Mem.tail _ (List.Mem.tail _ (List.Mem.tail _ (List.Mem.tail _ (List.Mem.tail _ (List.Mem.tail _ (List.Mem.tail _ (List.Mem.tail _ (List.Mem.tail _ (List.Mem.tail _ (List.Mem.head _)))))))))))))))))), fun _ => hq, fun z => Bool.noConfusion z⟩⟩
      · have e := hC.symm.trans g_InvalidNumber; cases e; exact ⟨true, He.exm_ok (Y.t.d.facts (f := .exm "InvalidNumber" "InvalidNumber" true) (List.mem_append_right _ (List.Mem.tail _ (List.Mem.tail _ (List.Mem.tail _ (List.Mem.tail _ (List.Mem.tail _ (List.Mem.tail _ (List.Mem.tail _ (List.Mem.tail _ (List.Mem.tail _ (List.Mem.tail _ (List.Mem.tail _ (List.Mem.tail _ (List.Mem.tail _ (List.Mem.tail _ (List.Mem.tail _ (List.Mem.tail _ (List.Mem.head _))))))))))))))))))), fun _ => hq, fun z => Bool.noConfusion z⟩
    · simp only [hs_law_error, List.mem_cons, List.not_mem_nil, or_false] at hq
      rcases hq with rfl | rfl | rfl
      · exact g_InvalidNumber
      · exact g_InvalidTree
      · exact g_NearError
  have h_law_cup : Has P w ⟨K, mg, tabsOf tf K⟩ base "_law_cup" P_law_cup 1 cLCup := has_of (k := 0) (N := N_law_cup) D__law_cup g__law_cup sc_law_cup (by intro kV doc pm an cdv ct us hl; exact match us, hl with | [_], _ => by kernel_rfl)
      (fun cdv A outer s H E _ hr => body_law_cup (b_list := b_list) (b_abs := b_abs) (b_int := b_int) (hr := hr)) (fun ds S Q E _ hc => cup_ok ds S Q E hc)
  have s_law_cup : Ct.sized cLCup P_law_cup.length := (by intro ds S Q E h; (repeat obtain ⟨_, h⟩ := h); subst_vars; rfl)
  have h_law_roll : Has P w ⟨K, mg, tabsOf tf K⟩ base "_law_roll" P_law_roll 1 cRoll := has_of (k := 0) (N := N_law_roll) D__law_roll g__law_roll sc_law_roll (by intro kV doc pm an cdv ct us hl; exact match us, hl with | [_, _], _ => by kernel_rfl)
      (fun cdv A outer s H E _ hr => body_law_roll (b_int := b_int) (hr := hr)) (fun ds S Q E _ hc => roll_ok ds S Q E hc)
  have s_law_roll : Ct.sized cRoll P_law_roll.length := (by intro ds S Q E h; (repeat obtain ⟨_, h⟩ := h); subst_vars; rfl)
  have h_law_some : Has P w ⟨K, mg, tabsOf tf K⟩ base "_law_some" P_law_some 2 cSome := has_of (k := 1) (N := N_law_some) D__law_some g__law_some sc_law_some (by intro kV doc pm an cdv ct us hl; exact match us, hl with | [_, _], _ => by kernel_rfl)
      (fun cdv A outer s H E _ hr => body_law_some (b_len := b_len) (h_law_roll := h_law_roll) (s_law_roll := s_law_roll) (l_law_roll := by decide) (hr := hr)) (fun ds S Q E _ hc => some_ok ds S Q E hc)
  have s_law_some : Ct.sized cSome P_law_some.length := (by intro ds S Q E h; (repeat obtain ⟨_, h⟩ := h); subst_vars; rfl)
  have his_tuple_of : Has P w ⟨K, mg, tabsOf tf K⟩ base "is_tuple_of" Pis_tuple_of 1 cIsTup := has_of (k := 0) (N := Nis_tuple_of) D_is_tuple_of g_is_tuple_of scis_tuple_of (by intro kV doc pm an cdv ct us hl; exact match us, hl with | [_, _, _], _ => by kernel_rfl)
      (fun cdv A outer s H E _ hr => bodyis_tuple_of (b_tuple := b_tuple) (b_isinstance := b_isinstance) (b_len := b_len) (hr := hr)) (fun ds S Q E _ hc => isTup_ok ds S Q E hc)
  have sis_tuple_of : Ct.sized cIsTup Pis_tuple_of.length := (by intro ds S Q E h; (repeat obtain ⟨_, h⟩ := h); subst_vars; rfl)
  have his_whole : Has P w ⟨K, mg, tabsOf tf K⟩ base "is_whole" Pis_whole 1 cWhole := has_of (k := 0) (N := Nis_whole) D_is_whole g_is_whole scis_whole (by intro kV doc pm an cdv ct us hl; exact match us, hl with | [_, _, _], _ => by kernel_rfl)
      (fun cdv A outer s H E _ hr => bodyis_whole (b_int := b_int) (b_isinstance := b_isinstance) (b_bool := b_bool) (hr := hr)) (fun ds S Q E _ hc => whole_ok ds S Q E hc)
  have sis_whole : Ct.sized cWhole Pis_whole.length := (by intro ds S Q E h; (repeat obtain ⟨_, h⟩ := h); subst_vars; rfl)
  have hfits_line : Has P w ⟨K, mg, tabsOf tf K⟩ base "fits_line" Pfits_line 2 cLine := has_of (k := 1) (N := Nfits_line) D_fits_line g_fits_line scfits_line (by intro kV doc pm an cdv ct us hl; exact match us, hl with | [_], _ => by kernel_rfl)
      (fun cdv A outer s H E _ hr => bodyfits_line (n_DEGREE := n_DEGREE) (n_COEFFICIENT := n_COEFFICIENT) (b_all := b_all) (his_tuple_of := his_tuple_of) (sis_tuple_of := sis_tuple_of) (lis_tuple_of := by decide) (his_whole := his_whole) (sis_whole := sis_whole) (lis_whole := by decide) (hr := hr)) (fun ds S Q E _ hc => line_ok ds S Q E hc)
  have sfits_line : Ct.sized cLine Pfits_line.length := (by intro ds S Q E h; (repeat obtain ⟨_, h⟩ := h); subst_vars; rfl)
  have his_integer : Has P w ⟨K, mg, tabsOf tf K⟩ base "is_integer" Pis_integer 1 cIsInt := has_of (k := 0) (N := Nis_integer) D_is_integer g_is_integer scis_integer (by intro kV doc pm an cdv ct us hl; exact match us, hl with | [_], _ => by kernel_rfl)
      (fun cdv A outer s H E _ hr => bodyis_integer (b_int := b_int) (b_isinstance := b_isinstance) (b_bool := b_bool) (hr := hr)) (fun ds S Q E _ hc => isInt_ok ds S Q E hc)
  have sis_integer : Ct.sized cIsInt Pis_integer.length := (by intro ds S Q E h; (repeat obtain ⟨_, h⟩ := h); subst_vars; rfl)
  have hfits_any : Has P w ⟨K, mg, tabsOf tf K⟩ base "fits_any" Pfits_any 2 cAny := has_of (k := 1) (N := Nfits_any) D_fits_any g_fits_any scfits_any (by intro kV doc pm an cdv ct us hl; exact match us, hl with | [_], _ => by kernel_rfl)
      (fun cdv A outer s H E _ hr => bodyfits_any (f_gcd := f_gcd) (his_tuple_of := his_tuple_of) (sis_tuple_of := sis_tuple_of) (lis_tuple_of := by decide) (his_integer := his_integer) (sis_integer := sis_integer) (lis_integer := by decide) (hr := hr)) (fun ds S Q E _ hc => any_ok ds S Q E hc)
  have sfits_any : Ct.sized cAny Pfits_any.length := (by intro ds S Q E h; (repeat obtain ⟨_, h⟩ := h); subst_vars; rfl)
  have hfits_fraction : Has P w ⟨K, mg, tabsOf tf K⟩ base "fits_fraction" Pfits_fraction 3 cFrac := has_of (k := 2) (N := Nfits_fraction) D_fits_fraction g_fits_fraction scfits_fraction (by intro kV doc pm an cdv ct us hl; exact match us, hl with | [_], _ => by kernel_rfl)
      (fun cdv A outer s H E _ hr => bodyfits_fraction (b_abs := b_abs) (n_GREATEST := n_GREATEST) (hfits_any := hfits_any) (sfits_any := sfits_any) (lfits_any := by decide) (hr := hr)) (fun ds S Q E _ hc => frac_ok ds S Q E hc)
  have sfits_fraction : Ct.sized cFrac Pfits_fraction.length := (by intro ds S Q E h; (repeat obtain ⟨_, h⟩ := h); subst_vars; rfl)
  have his_leaf : Has P w ⟨K, mg, tabsOf tf K⟩ base "is_leaf" Pis_leaf 4 cLeaf := has_of (k := 3) (N := Nis_leaf) D_is_leaf g_is_leaf scis_leaf (by intro kV doc pm an cdv ct us hl; exact match us, hl with | [_, _], _ => by kernel_rfl)
      (fun cdv A outer s H E _ hr => bodyis_leaf (b_len := b_len) (n_DEGREE := n_DEGREE) (hfits_fraction := hfits_fraction) (sfits_fraction := sfits_fraction) (lfits_fraction := by decide) (hfits_line := hfits_line) (sfits_line := sfits_line) (lfits_line := by decide) (his_whole := his_whole) (sis_whole := sis_whole) (lis_whole := by decide) (hr := hr)) (fun ds S Q E _ hc => leaf_ok ds S Q E hc)
  have sis_leaf : Ct.sized cLeaf Pis_leaf.length := (by intro ds S Q E h; (repeat obtain ⟨_, h⟩ := h); subst_vars; rfl)
  have his_less : Has P w ⟨K, mg, tabsOf tf K⟩ base "is_less" Pis_less 1 cLess := has_of (k := 0) (N := Nis_less) D_is_less g_is_less scis_less (by intro kV doc pm an cdv ct us hl; exact match us, hl with | [_, _], _ => by kernel_rfl)
      (fun cdv A outer s H E _ hr => bodyis_less  (hr := hr)) (fun ds S Q E _ hc => less_ok ds S Q E hc)
  have sis_less : Ct.sized cLess Pis_less.length := (by intro ds S Q E h; (repeat obtain ⟨_, h⟩ := h); subst_vars; rfl)
  have hmade : Has P w ⟨K, mg, tabsOf tf K⟩ base "made" Pmade 1 cMade := has_of (k := 0) (N := Nmade) D_made g_made scmade (by intro kV doc pm an cdv ct us hl; exact match us, hl with | [_, _], _ => by kernel_rfl)
      (fun cdv A outer s H E _ hr => bodymade (f_gcd := f_gcd) (hr := hr)) (fun ds S Q E _ hc => made_ok ds S Q E hc)
  have smade : Ct.sized cMade Pmade.length := (by intro ds S Q E h; (repeat obtain ⟨_, h⟩ := h); subst_vars; rfl)
  have his_end : Has P w ⟨K, mg, tabsOf tf K⟩ base "is_end" Pis_end 4 cEnd := has_of (k := 3) (N := Nis_end) D_is_end g_is_end scis_end (by intro kV doc pm an cdv ct us hl; exact match us, hl with | [_], _ => by kernel_rfl)
      (fun cdv A outer s H E _ hr => bodyis_end (b_abs := b_abs) (t_END := t_END) (hfits_fraction := hfits_fraction) (sfits_fraction := sfits_fraction) (lfits_fraction := by decide) (his_less := his_less) (sis_less := sis_less) (lis_less := by decide) (hmade := hmade) (smade := smade) (lmade := by decide) (hr := hr)) (fun ds S Q E _ hc => end_ok ds S Q E hc)
  have sis_end : Ct.sized cEnd Pis_end.length := (by intro ds S Q E h; (repeat obtain ⟨_, h⟩ := h); subst_vars; rfl)
  have hNleft_of := has_never (P := P) (w := w) (G := ⟨K, mg, tabsOf tf K⟩) (base := base) (ps := Pleft_of) D_left_of g_left_of (by intro kV doc pm an cdv ct us hl; exact match us, hl with | [_, _, _, _], _ => by kernel_rfl)
  have sRleft_of : ∀ i, Ct.sized (cLeft i) Pleft_of.length := fun i => (by intro ds S Q E h; (repeat obtain ⟨_, h⟩ := h); subst_vars; rfl)
  have hSleft_of : ∀ (i kk k : Nat) (c : Ct), Has P w ⟨K, mg, tabsOf tf K⟩ base "left_of" Pleft_of kk c → Ct.sized c Pleft_of.length → kk ≤ k → 4 ≤ k → (∀ e, i = e + 1 → c = cLeft e) → Has P w ⟨K, mg, tabsOf tf K⟩ base "left_of" Pleft_of (k + 1) (cLeft i) := fun i kk k c hp sp hk hb hcc => has_of (k := k) (N := Nleft_of) D_left_of g_left_of scleft_of (by intro kV doc pm an cdv ct us hl; exact match us, hl with | [_, _, _, _], _ => by kernel_rfl)
      (fun cdv A outer s H E _ hr => bodyleft_of (b_str := b_str) (b_isinstance := b_isinstance) (t_SMOOTH := t_SMOOTH) (t_ONE_PART := t_ONE_PART) (b_len := b_len) (n_EXPONENT := n_EXPONENT) (t_TWO_PARTS := t_TWO_PARTS) (his_tuple_of := his_tuple_of) (sis_tuple_of := sis_tuple_of) (lis_tuple_of := Nat.le_trans (by decide) hb) (hleft_of := hp) (sleft_of := sp) (lleft_of := hk) (his_whole := his_whole) (sis_whole := sis_whole) (lis_whole := Nat.le_trans (by decide) hb) (his_end := his_end) (sis_end := sis_end) (lis_end := Nat.le_trans (by decide) hb) (his_leaf := his_leaf) (sis_leaf := sis_leaf) (lis_leaf := Nat.le_trans (by decide) hb) (hr := hr)) (fun ds S Q E _ hc => (left_ok i c hcc) ds S Q E hc)
  have hRleft_of : ∀ i, Has P w ⟨K, mg, tabsOf tf K⟩ base "left_of" Pleft_of (4 + i + 1) (cLeft i) := fun i => Nat.rec (hSleft_of 0 0 4 _ hNleft_of never_sized (Nat.zero_le _) (Nat.le_refl _) (fun e h => absurd h (by omega))) (fun i ih => hSleft_of (i + 1) _ (4 + i + 1) (cLeft i) ih (sRleft_of i) (Nat.le_refl _) (by omega) (fun e h => by cases h; rfl)) i
  have hleft_of : Has P w ⟨K, mg, tabsOf tf K⟩ base "left_of" Pleft_of 17 (cLeft 12) := hRleft_of 12
  have sleft_of := sRleft_of 12
  have hfits_tree : Has P w ⟨K, mg, tabsOf tf K⟩ base "fits_tree" Pfits_tree 18 (cTreeF false) := has_of (k := 17) (N := Nfits_tree) D_fits_tree g_fits_tree scfits_tree (by intro kV doc pm an cdv ct us hl; exact match us, hl with | [_], _ => by kernel_rfl)
      (fun cdv A outer s H E _ hr => bodyfits_tree (n_NODES := n_NODES) (n_HEIGHT := n_HEIGHT) (hleft_of := hleft_of) (sleft_of := sleft_of) (lleft_of := by decide) (hr := hr)) (fun ds S Q E _ hc => fitsT_ok ds S Q E hc)
  have sfits_tree : Ct.sized (cTreeF false) Pfits_tree.length := (by intro ds S Q E h; (repeat obtain ⟨_, h⟩ := h); subst_vars; rfl)
  have his_tree : Has P w ⟨K, mg, tabsOf tf K⟩ base "is_tree" Pis_tree 19 (cTreeF false) := has_of (k := 18) (N := Nis_tree) D_is_tree g_is_tree scis_tree (by intro kV doc pm an cdv ct us hl; exact match us, hl with | [_], _ => by kernel_rfl)
      (fun cdv A outer s H E _ hr => bodyis_tree (hfits_tree := hfits_tree) (sfits_tree := sfits_tree) (lfits_tree := by decide) (hr := hr)) (fun ds S Q E _ hc => isT_ok ds S Q E hc)
  have sis_tree : Ct.sized (cTreeF false) Pis_tree.length := (by intro ds S Q E h; (repeat obtain ⟨_, h⟩ := h); subst_vars; rfl)
  have hneed_tree : Has P w ⟨K, mg, tabsOf tf K⟩ base "need_tree" Pneed_tree 19 cNeedT := has_of (k := 18) (N := Nneed_tree) D_need_tree g_need_tree scneed_tree (by intro kV doc pm an cdv ct us hl; exact match us, hl with | [_], _ => by kernel_rfl)
      (fun cdv A outer s H E _ hr => bodyneed_tree (x_InvalidTree := x_InvalidTree) (hfits_tree := hfits_tree) (sfits_tree := sfits_tree) (lfits_tree := by decide) (hr := hr)) (fun ds S Q E _ hc => needT_ok ds S Q E hc)
  have sneed_tree : Ct.sized cNeedT Pneed_tree.length := (by intro ds S Q E h; (repeat obtain ⟨_, h⟩ := h); subst_vars; rfl)
  have hinner : Has P w ⟨K, mg, tabsOf tf K⟩ base "inner" Pinner 1 cInner := has_of (k := 0) (N := Ninner) D_inner g_inner scinner (by intro kV doc pm an cdv ct us hl; exact match us, hl with | [_], _ => by kernel_rfl)
      (fun cdv A outer s H E _ hr => bodyinner (t_ONE_PART := t_ONE_PART) (t_TWO_PARTS := t_TWO_PARTS) (hr := hr)) (fun ds S Q E _ hc => inner_ok ds S Q E hc)
  have sinner : Ct.sized cInner Pinner.length := (by intro ds S Q E h; (repeat obtain ⟨_, h⟩ := h); subst_vars; rfl)
  have hNparts := has_never (P := P) (w := w) (G := ⟨K, mg, tabsOf tf K⟩) (base := base) (ps := Pparts) D_parts g_parts (by intro kV doc pm an cdv ct us hl; exact match us, hl with | [_], _ => by kernel_rfl)
  have sRparts : ∀ i, Ct.sized (cParts i) Pparts.length := fun i => (by intro ds S Q E h; (repeat obtain ⟨_, h⟩ := h); subst_vars; rfl)
  have hSparts : ∀ (i kk k : Nat) (c : Ct), Has P w ⟨K, mg, tabsOf tf K⟩ base "parts" Pparts kk c → Ct.sized c Pparts.length → kk ≤ k → 1 ≤ k → (∀ e, i = e + 1 → c = cParts e) → Has P w ⟨K, mg, tabsOf tf K⟩ base "parts" Pparts (k + 1) (cParts i) := fun i kk k c hp sp hk hb hcc => has_of (k := k) (N := Nparts) D_parts g_parts scparts (by intro kV doc pm an cdv ct us hl; exact match us, hl with | [_], _ => by kernel_rfl)
      (fun cdv A outer s H E _ hr => bodyparts (hinner := hinner) (sinner := sinner) (linner := Nat.le_trans (by decide) hb) (hparts := hp) (sparts := sp) (lparts := hk) (hr := hr)) (fun ds S Q E _ hc => (parts_ok i c hcc) ds S Q E hc)
  have hRparts : ∀ i, Has P w ⟨K, mg, tabsOf tf K⟩ base "parts" Pparts (1 + i + 1) (cParts i) := fun i => Nat.rec (hSparts 0 0 1 _ hNparts never_sized (Nat.zero_le _) (Nat.le_refl _) (fun e h => absurd h (by omega))) (fun i ih => hSparts (i + 1) _ (1 + i + 1) (cParts i) ih (sRparts i) (Nat.le_refl _) (by omega) (fun e h => by cases h; rfl)) i
  have hparts : Has P w ⟨K, mg, tabsOf tf K⟩ base "parts" Pparts 14 (cParts 12) := hRparts 12
  have sparts := sRparts 12
  have his_told : Has P w ⟨K, mg, tabsOf tf K⟩ base "is_told" Pis_told 15 cTold := has_of (k := 14) (N := Nis_told) D_is_told g_is_told scis_told (by intro kV doc pm an cdv ct us hl; exact match us, hl with | [_], _ => by kernel_rfl)
      (fun cdv A outer s H E _ hr => bodyis_told (t_TOLD := t_TOLD) (b_all := b_all) (hparts := hparts) (sparts := sparts) (lparts := by decide) (hr := hr)) (fun ds S Q E _ hc => told_ok ds S Q E hc)
  have sis_told : Ct.sized cTold Pis_told.length := (by intro ds S Q E h; (repeat obtain ⟨_, h⟩ := h); subst_vars; rfl)
  have his_algebraic : Has P w ⟨K, mg, tabsOf tf K⟩ base "is_algebraic" Pis_algebraic 20 cAlg := has_of (k := 19) (N := Nis_algebraic) D_is_algebraic g_is_algebraic scis_algebraic (by intro kV doc pm an cdv ct us hl; exact match us, hl with | [_], _ => by kernel_rfl)
      (fun cdv A outer s H E _ hr => bodyis_algebraic (hneed_tree := hneed_tree) (sneed_tree := sneed_tree) (lneed_tree := by decide) (his_told := his_told) (sis_told := sis_told) (lis_told := by decide) (hr := hr)) (fun ds S Q E _ hc => alg_ok ds S Q E hc)
  have sis_algebraic : Ct.sized cAlg Pis_algebraic.length := (by intro ds S Q E h; (repeat obtain ⟨_, h⟩ := h); subst_vars; rfl)
  have hfits_integrand : Has P w ⟨K, mg, tabsOf tf K⟩ base "fits_integrand" Pfits_integrand 18 (cTreeF true) := has_of (k := 17) (N := Nfits_integrand) D_fits_integrand g_fits_integrand scfits_integrand (by intro kV doc pm an cdv ct us hl; exact match us, hl with | [_], _ => by kernel_rfl)
      (fun cdv A outer s H E _ hr => bodyfits_integrand (n_NODES := n_NODES) (n_HEIGHT := n_HEIGHT) (hleft_of := hleft_of) (sleft_of := sleft_of) (lleft_of := by decide) (hr := hr)) (fun ds S Q E _ hc => fitsI_ok ds S Q E hc)
  have sfits_integrand : Ct.sized (cTreeF true) Pfits_integrand.length := (by intro ds S Q E h; (repeat obtain ⟨_, h⟩ := h); subst_vars; rfl)
  have his_integrand : Has P w ⟨K, mg, tabsOf tf K⟩ base "is_integrand" Pis_integrand 19 (cTreeF true) := has_of (k := 18) (N := Nis_integrand) D_is_integrand g_is_integrand scis_integrand (by intro kV doc pm an cdv ct us hl; exact match us, hl with | [_], _ => by kernel_rfl)
      (fun cdv A outer s H E _ hr => bodyis_integrand (hfits_integrand := hfits_integrand) (sfits_integrand := sfits_integrand) (lfits_integrand := by decide) (hr := hr)) (fun ds S Q E _ hc => isI_ok ds S Q E hc)
  have sis_integrand : Ct.sized (cTreeF true) Pis_integrand.length := (by intro ds S Q E h; (repeat obtain ⟨_, h⟩ := h); subst_vars; rfl)
  have h_law_integrands_right : Has P w ⟨K, mg, tabsOf tf K⟩ base "_law_integrands_right" P_law_integrands_right 21 cTrue := has_of (k := 20) (N := N_law_integrands_right) D__law_integrands_right g__law_integrands_right sc_law_integrands_right (by intro kV doc pm an cdv ct us hl; exact match us, hl with | [], _ => by kernel_rfl)
      (fun cdv A outer s H E _ hr => body_law_integrands_right (b_range := b_range) (his_integrand := his_integrand) (sis_integrand := sis_integrand) (lis_integrand := by decide) (his_algebraic := his_algebraic) (sis_algebraic := sis_algebraic) (lis_algebraic := by decide) (his_tree := his_tree) (sis_tree := sis_tree) (lis_tree := by decide) (hr := hr)) (fun ds S Q E _ hc => ir_ok ds S Q E hc)
  have s_law_integrands_right : Ct.sized cTrue P_law_integrands_right.length := (by intro ds S Q E h; (repeat obtain ⟨_, h⟩ := h); subst_vars; rfl)
  have h_law_is_whole : Has P w ⟨K, mg, tabsOf tf K⟩ base "_law_is_whole" P_law_is_whole 1 cWhole := has_of (k := 0) (N := N_law_is_whole) D__law_is_whole g__law_is_whole sc_law_is_whole (by intro kV doc pm an cdv ct us hl; exact match us, hl with | [_, _, _], _ => by kernel_rfl)
      (fun cdv A outer s H E _ hr => body_law_is_whole (b_int := b_int) (b_isinstance := b_isinstance) (b_bool := b_bool) (hr := hr)) (fun ds S Q E _ hc => lwhole_ok ds S Q E hc)
  have s_law_is_whole : Ct.sized cWhole P_law_is_whole.length := (by intro ds S Q E h; (repeat obtain ⟨_, h⟩ := h); subst_vars; rfl)
  have h_law_common : Has P w ⟨K, mg, tabsOf tf K⟩ base "_law_common" P_law_common 1 cCommon := has_of (k := 0) (N := N_law_common) D__law_common g__law_common sc_law_common (by intro kV doc pm an cdv ct us hl; exact match us, hl with | [_, _], _ => by kernel_rfl)
      (fun cdv A outer s H E _ hr => body_law_common (b_int := b_int) (hr := hr)) (fun ds S Q E _ hc => common_ok ds S Q E hc)
  have s_law_common : Ct.sized cCommon P_law_common.length := (by intro ds S Q E h; (repeat obtain ⟨_, h⟩ := h); subst_vars; rfl)
  have h_law_made : Has P w ⟨K, mg, tabsOf tf K⟩ base "_law_made" P_law_made 2 cMade := has_of (k := 1) (N := N_law_made) D__law_made g__law_made sc_law_made (by intro kV doc pm an cdv ct us hl; exact match us, hl with | [_, _], _ => by kernel_rfl)
      (fun cdv A outer s H E _ hr => body_law_made (h_law_common := h_law_common) (s_law_common := s_law_common) (l_law_common := by decide) (hr := hr)) (fun ds S Q E _ hc => lawmade_ok ds S Q E hc)
  have s_law_made : Ct.sized cMade P_law_made.length := (by intro ds S Q E h; (repeat obtain ⟨_, h⟩ := h); subst_vars; rfl)
  have h_law_is_any : Has P w ⟨K, mg, tabsOf tf K⟩ base "_law_is_any" P_law_is_any 3 cLawAny := has_of (k := 2) (N := N_law_is_any) D__law_is_any g__law_is_any sc_law_is_any (by intro kV doc pm an cdv ct us hl; exact match us, hl with | [_], _ => by kernel_rfl)
      (fun cdv A outer s H E _ hr => body_law_is_any (b_tuple := b_tuple) (b_isinstance := b_isinstance) (b_len := b_len) (b_bool := b_bool) (b_int := b_int) (h_law_made := h_law_made) (s_law_made := s_law_made) (l_law_made := by decide) (hr := hr)) (fun ds S Q E _ hc => lawany_ok ds S Q E hc)
  have s_law_is_any : Ct.sized cLawAny P_law_is_any.length := (by intro ds S Q E h; (repeat obtain ⟨_, h⟩ := h); subst_vars; rfl)
  have h_law_is_fraction : Has P w ⟨K, mg, tabsOf tf K⟩ base "_law_is_fraction" P_law_is_fraction 4 cLawFrac := has_of (k := 3) (N := N_law_is_fraction) D__law_is_fraction g__law_is_fraction sc_law_is_fraction (by intro kV doc pm an cdv ct us hl; exact match us, hl with | [_], _ => by kernel_rfl)
      (fun cdv A outer s H E _ hr => body_law_is_fraction (b_abs := b_abs) (h_law_is_any := h_law_is_any) (s_law_is_any := s_law_is_any) (l_law_is_any := by decide) (hr := hr)) (fun ds S Q E _ hc => lawfrac_ok ds S Q E hc)
  have s_law_is_fraction : Ct.sized cLawFrac P_law_is_fraction.length := (by intro ds S Q E h; (repeat obtain ⟨_, h⟩ := h); subst_vars; rfl)
  have h_law_is_line : Has P w ⟨K, mg, tabsOf tf K⟩ base "_law_is_line" P_law_is_line 2 cLLine := has_of (k := 1) (N := N_law_is_line) D__law_is_line g__law_is_line sc_law_is_line (by intro kV doc pm an cdv ct us hl; exact match us, hl with | [_], _ => by kernel_rfl)
      (fun cdv A outer s H E _ hr => body_law_is_line (b_tuple := b_tuple) (b_isinstance := b_isinstance) (b_len := b_len) (h_law_is_whole := h_law_is_whole) (s_law_is_whole := s_law_is_whole) (l_law_is_whole := by decide) (hr := hr)) (fun ds S Q E _ hc => lline_ok ds S Q E hc)
  have s_law_is_line : Ct.sized cLLine P_law_is_line.length := (by intro ds S Q E h; (repeat obtain ⟨_, h⟩ := h); subst_vars; rfl)
  have hN_law_is_tree := has_never (P := P) (w := w) (G := ⟨K, mg, tabsOf tf K⟩) (base := base) (ps := P_law_is_tree) D__law_is_tree g__law_is_tree (by intro kV doc pm an cdv ct us hl; exact match us, hl with | [_, _], _ => by kernel_rfl)
  have sR_law_is_tree : ∀ i, Ct.sized (cLTree i) P_law_is_tree.length := fun i => (by intro ds S Q E h; (repeat obtain ⟨_, h⟩ := h); subst_vars; rfl)
  have hS_law_is_tree : ∀ (i kk k : Nat) (c : Ct), Has P w ⟨K, mg, tabsOf tf K⟩ base "_law_is_tree" P_law_is_tree kk c → Ct.sized c P_law_is_tree.length → kk ≤ k → 4 ≤ k → (∀ e, i = e + 1 → c = cLTree e) → Has P w ⟨K, mg, tabsOf tf K⟩ base "_law_is_tree" P_law_is_tree (k + 1) (cLTree i) := fun i kk k c hp sp hk hb hcc => has_of (k := k) (N := N_law_is_tree) D__law_is_tree g__law_is_tree sc_law_is_tree (by intro kV doc pm an cdv ct us hl; exact match us, hl with | [_, _], _ => by kernel_rfl)
      (fun cdv A outer s H E _ hr => body_law_is_tree (b_tuple := b_tuple) (b_isinstance := b_isinstance) (b_len := b_len) (b_str := b_str) (b_abs := b_abs) (h_law_is_tree := hp) (s_law_is_tree := sp) (l_law_is_tree := hk) (h_law_is_whole := h_law_is_whole) (s_law_is_whole := s_law_is_whole) (l_law_is_whole := Nat.le_trans (by decide) hb) (h_law_is_fraction := h_law_is_fraction) (s_law_is_fraction := s_law_is_fraction) (l_law_is_fraction := Nat.le_trans (by decide) hb) (h_law_is_line := h_law_is_line) (s_law_is_line := s_law_is_line) (l_law_is_line := Nat.le_trans (by decide) hb) (hr := hr)) (fun ds S Q E _ hc => (ltree_ok i c hcc) ds S Q E hc)
  have hR_law_is_tree : ∀ i, Has P w ⟨K, mg, tabsOf tf K⟩ base "_law_is_tree" P_law_is_tree (4 + i + 1) (cLTree i) := fun i => Nat.rec (hS_law_is_tree 0 0 4 _ hN_law_is_tree never_sized (Nat.zero_le _) (Nat.le_refl _) (fun e h => absurd h (by omega))) (fun i ih => hS_law_is_tree (i + 1) _ (4 + i + 1) (cLTree i) ih (sR_law_is_tree i) (Nat.le_refl _) (by omega) (fun e h => by cases h; rfl)) i
  have h_law_is_tree : Has P w ⟨K, mg, tabsOf tf K⟩ base "_law_is_tree" P_law_is_tree 25 (cLTree 20) := hR_law_is_tree 20
  have s_law_is_tree := sR_law_is_tree 20
  have h_law_inner : Has P w ⟨K, mg, tabsOf tf K⟩ base "_law_inner" P_law_inner 1 cLInner := has_of (k := 0) (N := N_law_inner) D__law_inner g__law_inner sc_law_inner (by intro kV doc pm an cdv ct us hl; exact match us, hl with | [_], _ => by kernel_rfl)
      (fun cdv A outer s H E _ hr => body_law_inner (b_tuple := b_tuple) (b_isinstance := b_isinstance) (b_len := b_len) (b_str := b_str) (hr := hr)) (fun ds S Q E _ hc => linner_ok ds S Q E hc)
  have s_law_inner : Ct.sized cLInner P_law_inner.length := (by intro ds S Q E h; (repeat obtain ⟨_, h⟩ := h); subst_vars; rfl)
  have hN_law_high := has_never (P := P) (w := w) (G := ⟨K, mg, tabsOf tf K⟩) (base := base) (ps := P_law_high) D__law_high g__law_high (by intro kV doc pm an cdv ct us hl; exact match us, hl with | [_], _ => by kernel_rfl)
  have sR_law_high : ∀ i, Ct.sized (cLHigh i) P_law_high.length := fun i => (by intro ds S Q E h; (repeat obtain ⟨_, h⟩ := h); subst_vars; rfl)
  have hS_law_high : ∀ (i kk k : Nat) (c : Ct), Has P w ⟨K, mg, tabsOf tf K⟩ base "_law_high" P_law_high kk c → Ct.sized c P_law_high.length → kk ≤ k → 1 ≤ k → (∀ e, i = e + 1 → c = cLHigh e) → Has P w ⟨K, mg, tabsOf tf K⟩ base "_law_high" P_law_high (k + 1) (cLHigh i) := fun i kk k c hp sp hk hb hcc => has_of (k := k) (N := N_law_high) D__law_high g__law_high sc_law_high (by intro kV doc pm an cdv ct us hl; exact match us, hl with | [_], _ => by kernel_rfl)
      (fun cdv A outer s H E _ hr => body_law_high (b_max := b_max) (h_law_inner := h_law_inner) (s_law_inner := s_law_inner) (l_law_inner := Nat.le_trans (by decide) hb) (h_law_high := hp) (s_law_high := sp) (l_law_high := hk) (hr := hr)) (fun ds S Q E _ hc => (lhigh_ok i c hcc) ds S Q E hc)
  have hR_law_high : ∀ i, Has P w ⟨K, mg, tabsOf tf K⟩ base "_law_high" P_law_high (1 + i + 1) (cLHigh i) := fun i => Nat.rec (hS_law_high 0 0 1 _ hN_law_high never_sized (Nat.zero_le _) (Nat.le_refl _) (fun e h => absurd h (by omega))) (fun i ih => hS_law_high (i + 1) _ (1 + i + 1) (cLHigh i) ih (sR_law_high i) (Nat.le_refl _) (by omega) (fun e h => by cases h; rfl)) i
  have h_law_high : Has P w ⟨K, mg, tabsOf tf K⟩ base "_law_high" P_law_high 22 (cLHigh 20) := hR_law_high 20
  have s_law_high := sR_law_high 20
  have hN_law_parts := has_never (P := P) (w := w) (G := ⟨K, mg, tabsOf tf K⟩) (base := base) (ps := P_law_parts) D__law_parts g__law_parts (by intro kV doc pm an cdv ct us hl; exact match us, hl with | [_], _ => by kernel_rfl)
  have sR_law_parts : ∀ i, Ct.sized (cLParts i) P_law_parts.length := fun i => (by intro ds S Q E h; (repeat obtain ⟨_, h⟩ := h); subst_vars; rfl)
  have hS_law_parts : ∀ (i kk k : Nat) (c : Ct), Has P w ⟨K, mg, tabsOf tf K⟩ base "_law_parts" P_law_parts kk c → Ct.sized c P_law_parts.length → kk ≤ k → 1 ≤ k → (∀ e, i = e + 1 → c = cLParts e) → Has P w ⟨K, mg, tabsOf tf K⟩ base "_law_parts" P_law_parts (k + 1) (cLParts i) := fun i kk k c hp sp hk hb hcc => has_of (k := k) (N := N_law_parts) D__law_parts g__law_parts sc_law_parts (by intro kV doc pm an cdv ct us hl; exact match us, hl with | [_], _ => by kernel_rfl)
      (fun cdv A outer s H E _ hr => body_law_parts (h_law_inner := h_law_inner) (s_law_inner := s_law_inner) (l_law_inner := Nat.le_trans (by decide) hb) (h_law_parts := hp) (s_law_parts := sp) (l_law_parts := hk) (hr := hr)) (fun ds S Q E _ hc => (lparts_ok i c hcc) ds S Q E hc)
  have hR_law_parts : ∀ i, Has P w ⟨K, mg, tabsOf tf K⟩ base "_law_parts" P_law_parts (1 + i + 1) (cLParts i) := fun i => Nat.rec (hS_law_parts 0 0 1 _ hN_law_parts never_sized (Nat.zero_le _) (Nat.le_refl _) (fun e h => absurd h (by omega))) (fun i ih => hS_law_parts (i + 1) _ (1 + i + 1) (cLParts i) ih (sR_law_parts i) (Nat.le_refl _) (by omega) (fun e h => by cases h; rfl)) i
  have h_law_parts : Has P w ⟨K, mg, tabsOf tf K⟩ base "_law_parts" P_law_parts 22 (cLParts 20) := hR_law_parts 20
  have s_law_parts := sR_law_parts 20
  have h_law_fits : Has P w ⟨K, mg, tabsOf tf K⟩ base "_law_fits" P_law_fits 26 cLFits := has_of (k := 25) (N := N_law_fits) D__law_fits g__law_fits sc_law_fits (by intro kV doc pm an cdv ct us hl; exact match us, hl with | [_, _], _ => by kernel_rfl)
      (fun cdv A outer s H E _ hr => body_law_fits (b_len := b_len) (h_law_is_tree := h_law_is_tree) (s_law_is_tree := s_law_is_tree) (l_law_is_tree := by decide) (h_law_parts := h_law_parts) (s_law_parts := s_law_parts) (l_law_parts := by decide) (h_law_high := h_law_high) (s_law_high := s_law_high) (l_law_high := by decide) (hr := hr)) (fun ds S Q E _ hc => lfits_ok ds S Q E hc)
  have s_law_fits : Ct.sized cLFits P_law_fits.length := (by intro ds S Q E h; (repeat obtain ⟨_, h⟩ := h); subst_vars; rfl)
  have h_law_right : Has P w ⟨K, mg, tabsOf tf K⟩ base "_law_right" P_law_right 27 cRight := has_of (k := 26) (N := N_law_right) D__law_right g__law_right sc_law_right (by intro kV doc pm an cdv ct us hl; exact match us, hl with | [_], _ => by kernel_rfl)
      (fun cdv A outer s H E _ hr => body_law_right (his_tree := his_tree) (sis_tree := sis_tree) (lis_tree := by decide) (h_law_fits := h_law_fits) (s_law_fits := s_law_fits) (l_law_fits := by decide) (his_integrand := his_integrand) (sis_integrand := sis_integrand) (lis_integrand := by decide) (hr := hr)) (fun ds S Q E _ hc => right_ok ds S Q E hc)
  have s_law_right : Ct.sized cRight P_law_right.length := (by intro ds S Q E h; (repeat obtain ⟨_, h⟩ := h); subst_vars; rfl)
  have hN_law_tree := has_never (P := P) (w := w) (G := ⟨K, mg, tabsOf tf K⟩) (base := base) (ps := P_law_tree) D__law_tree g__law_tree (by intro kV doc pm an cdv ct us hl; exact match us, hl with | [_, _], _ => by kernel_rfl)
  have sR_law_tree : ∀ i, Ct.sized (cTr i) P_law_tree.length := fun i => (by intro ds S Q E h; (repeat obtain ⟨_, h⟩ := h); subst_vars; rfl)
  have hS_law_tree : ∀ (i kk k : Nat) (c : Ct), Has P w ⟨K, mg, tabsOf tf K⟩ base "_law_tree" P_law_tree kk c → Ct.sized c P_law_tree.length → kk ≤ k → 2 ≤ k → (∀ e, i = e + 1 → c = cTr e) → Has P w ⟨K, mg, tabsOf tf K⟩ base "_law_tree" P_law_tree (k + 1) (cTr i) := fun i kk k c hp sp hk hb hcc => has_of (k := k) (N := N_law_tree) D__law_tree g__law_tree sc_law_tree (by intro kV doc pm an cdv ct us hl; exact match us, hl with | [_, _], _ => by kernel_rfl)
      (fun cdv A outer s H E _ hr => body_law_tree (h_law_roll := h_law_roll) (s_law_roll := s_law_roll) (l_law_roll := Nat.le_trans (by decide) hb) (h_law_some := h_law_some) (s_law_some := s_law_some) (l_law_some := Nat.le_trans (by decide) hb) (h_law_made := h_law_made) (s_law_made := s_law_made) (l_law_made := Nat.le_trans (by decide) hb) (h_law_tree := hp) (s_law_tree := sp) (l_law_tree := hk) (hr := hr)) (fun ds S Q E _ hc => (tree_ok i c hcc) ds S Q E hc)
  have hR_law_tree : ∀ i, Has P w ⟨K, mg, tabsOf tf K⟩ base "_law_tree" P_law_tree (2 + i + 1) (cTr i) := fun i => Nat.rec (hS_law_tree 0 0 2 _ hN_law_tree never_sized (Nat.zero_le _) (Nat.le_refl _) (fun e h => absurd h (by omega))) (fun i ih => hS_law_tree (i + 1) _ (2 + i + 1) (cTr i) ih (sR_law_tree i) (Nat.le_refl _) (by omega) (fun e h => by cases h; rfl)) i
  have h_law_tree : Has P w ⟨K, mg, tabsOf tf K⟩ base "_law_tree" P_law_tree 6 (cTr 3) := hR_law_tree 3
  have s_law_tree := sR_law_tree 3
  have h_law_fraction : Has P w ⟨K, mg, tabsOf tf K⟩ base "_law_fraction" P_law_fraction 3 cLFrac := has_of (k := 2) (N := N_law_fraction) D__law_fraction g__law_fraction sc_law_fraction (by intro kV doc pm an cdv ct us hl; exact match us, hl with | [_], _ => by kernel_rfl)
      (fun cdv A outer s H E _ hr => body_law_fraction (h_law_made := h_law_made) (s_law_made := s_law_made) (l_law_made := by decide) (h_law_roll := h_law_roll) (s_law_roll := s_law_roll) (l_law_roll := by decide) (hr := hr)) (fun ds S Q E _ hc => lfrac_ok ds S Q E hc)
  have s_law_fraction : Ct.sized cLFrac P_law_fraction.length := (by intro ds S Q E h; (repeat obtain ⟨_, h⟩ := h); subst_vars; rfl)
  have hN_law_told_tree := has_never (P := P) (w := w) (G := ⟨K, mg, tabsOf tf K⟩) (base := base) (ps := P_law_told_tree) D__law_told_tree g__law_told_tree (by intro kV doc pm an cdv ct us hl; exact match us, hl with | [_, _], _ => by kernel_rfl)
  have sR_law_told_tree : ∀ i, Ct.sized (cTr i) P_law_told_tree.length := fun i => (by intro ds S Q E h; (repeat obtain ⟨_, h⟩ := h); subst_vars; rfl)
  have hS_law_told_tree : ∀ (i kk k : Nat) (c : Ct), Has P w ⟨K, mg, tabsOf tf K⟩ base "_law_told_tree" P_law_told_tree kk c → Ct.sized c P_law_told_tree.length → kk ≤ k → 3 ≤ k → (∀ e, i = e + 1 → c = cTr e) → Has P w ⟨K, mg, tabsOf tf K⟩ base "_law_told_tree" P_law_told_tree (k + 1) (cTr i) := fun i kk k c hp sp hk hb hcc => has_of (k := k) (N := N_law_told_tree) D__law_told_tree g__law_told_tree sc_law_told_tree (by intro kV doc pm an cdv ct us hl; exact match us, hl with | [_, _], _ => by kernel_rfl)
      (fun cdv A outer s H E _ hr => body_law_told_tree (h_law_roll := h_law_roll) (s_law_roll := s_law_roll) (l_law_roll := Nat.le_trans (by decide) hb) (h_law_fraction := h_law_fraction) (s_law_fraction := s_law_fraction) (l_law_fraction := Nat.le_trans (by decide) hb) (h_law_told_tree := hp) (s_law_told_tree := sp) (l_law_told_tree := hk) (h_law_some := h_law_some) (s_law_some := s_law_some) (l_law_some := Nat.le_trans (by decide) hb) (hr := hr)) (fun ds S Q E _ hc => (ttree_ok i c hcc) ds S Q E hc)
  have hR_law_told_tree : ∀ i, Has P w ⟨K, mg, tabsOf tf K⟩ base "_law_told_tree" P_law_told_tree (3 + i + 1) (cTr i) := fun i => Nat.rec (hS_law_told_tree 0 0 3 _ hN_law_told_tree never_sized (Nat.zero_le _) (Nat.le_refl _) (fun e h => absurd h (by omega))) (fun i ih => hS_law_told_tree (i + 1) _ (3 + i + 1) (cTr i) ih (sR_law_told_tree i) (Nat.le_refl _) (by omega) (fun e h => by cases h; rfl)) i
  have h_law_told_tree : Has P w ⟨K, mg, tabsOf tf K⟩ base "_law_told_tree" P_law_told_tree 7 (cTr 3) := hR_law_told_tree 3
  have s_law_told_tree := sR_law_told_tree 3
  have hsize_of : Has P w ⟨K, mg, tabsOf tf K⟩ base "size_of" Psize_of 20 cSize := has_of (k := 19) (N := Nsize_of) D_size_of g_size_of scsize_of (by intro kV doc pm an cdv ct us hl; exact match us, hl with | [_], _ => by kernel_rfl)
      (fun cdv A outer s H E _ hr => bodysize_of (b_len := b_len) (hneed_tree := hneed_tree) (sneed_tree := sneed_tree) (lneed_tree := by decide) (hparts := hparts) (sparts := sparts) (lparts := by decide) (hr := hr)) (fun ds S Q E _ hc => size_ok ds S Q E hc)
  have ssize_of : Ct.sized cSize Psize_of.length := (by intro ds S Q E h; (repeat obtain ⟨_, h⟩ := h); subst_vars; rfl)
  have hsort_at : Has P w ⟨K, mg, tabsOf tf K⟩ base "sort_at" Psort_at 20 cSort := has_of (k := 19) (N := Nsort_at) D_sort_at g_sort_at scsort_at (by intro kV doc pm an cdv ct us hl; exact match us, hl with | [_, _], _ => by kernel_rfl)
      (fun cdv A outer s H E _ hr => bodysort_at (b_len := b_len) (x_InvalidNumber := x_InvalidNumber) (hneed_tree := hneed_tree) (sneed_tree := sneed_tree) (lneed_tree := by decide) (his_whole := his_whole) (sis_whole := sis_whole) (lis_whole := by decide) (hparts := hparts) (sparts := sparts) (lparts := by decide) (hr := hr)) (fun ds S Q E _ hc => sort_ok ds S Q E hc)
  have ssort_at : Ct.sized cSort Psort_at.length := (by intro ds S Q E h; (repeat obtain ⟨_, h⟩ := h); subst_vars; rfl)
  have hN_law_spoilt := has_never (P := P) (w := w) (G := ⟨K, mg, tabsOf tf K⟩) (base := base) (ps := P_law_spoilt) D__law_spoilt g__law_spoilt (by intro kV doc pm an cdv ct us hl; exact match us, hl with | [_, _], _ => by kernel_rfl)
  have sR_law_spoilt : ∀ i, Ct.sized (cSpoilt i) P_law_spoilt.length := fun i => (by intro ds S Q E h; (repeat obtain ⟨_, h⟩ := h); subst_vars; rfl)
  have hS_law_spoilt : ∀ (i kk k : Nat) (c : Ct), Has P w ⟨K, mg, tabsOf tf K⟩ base "_law_spoilt" P_law_spoilt kk c → Ct.sized c P_law_spoilt.length → kk ≤ k → 2 ≤ k → (∀ e, i = e + 1 → c = cSpoilt e) → Has P w ⟨K, mg, tabsOf tf K⟩ base "_law_spoilt" P_law_spoilt (k + 1) (cSpoilt i) := fun i kk k c hp sp hk hb hcc => has_of (k := k) (N := N_law_spoilt) D__law_spoilt g__law_spoilt sc_law_spoilt (by intro kV doc pm an cdv ct us hl; exact match us, hl with | [_, _], _ => by kernel_rfl)
      (fun cdv A outer s H E _ hr => body_law_spoilt (b_tuple := b_tuple) (b_isinstance := b_isinstance) (b_len := b_len) (b_list := b_list) (h_law_roll := h_law_roll) (s_law_roll := s_law_roll) (l_law_roll := Nat.le_trans (by decide) hb) (h_law_some := h_law_some) (s_law_some := s_law_some) (l_law_some := Nat.le_trans (by decide) hb) (h_law_spoilt := hp) (s_law_spoilt := sp) (l_law_spoilt := hk) (hr := hr)) (fun ds S Q E _ hc => (spoilt_ok i c hcc) ds S Q E hc)
  have hR_law_spoilt : ∀ i, Has P w ⟨K, mg, tabsOf tf K⟩ base "_law_spoilt" P_law_spoilt (2 + i + 1) (cSpoilt i) := fun i => Nat.rec (hS_law_spoilt 0 0 2 _ hN_law_spoilt never_sized (Nat.zero_le _) (Nat.le_refl _) (fun e h => absurd h (by omega))) (fun i ih => hS_law_spoilt (i + 1) _ (2 + i + 1) (cSpoilt i) ih (sR_law_spoilt i) (Nat.le_refl _) (by omega) (fun e h => by cases h; rfl)) i
  have h_law_spoilt : Has P w ⟨K, mg, tabsOf tf K⟩ base "_law_spoilt" P_law_spoilt 15 (cSpoilt 12) := hR_law_spoilt 12
  have s_law_spoilt := sR_law_spoilt 12
  have hlaw : Has P w ⟨K, mg, tabsOf tf K⟩ base "law" Plaw 30 cLaw := has_of (k := 29) (N := Nlaw) D_law g_law sclaw (by intro kV doc pm an cdv ct us hl; exact match us, hl with | [_], _ => by kernel_rfl)
      (fun cdv A outer s H E ⟨oc, od, fd, osl, lk, e, cc, hc⟩ hr => by
        subst hc
        have ec : He.codeOf K ("law", none) = cc := He.codeOf_eq lk e
        have TB := TBs ("law", none) (List.Mem.head _)
        have hmT : ((He.cT K ("law", none)).2, ("law" : Str) ++ ".<locals>." ++ "<lambda>") ∈ tabsOf tf K := (List.Mem.head _)
        have hu : ∀ p ∈ tabsOf tf K, p.1 = (He.cT K ("law", none)).2 → p.2 = ("law" : Str) ++ ".<locals>." ++ "<lambda>" := by
          intro p hp he
          simp only [tabsOf, tf, List.map_cons, List.map_nil, List.mem_cons, List.not_mem_nil, or_false] at hp
          subst hp
          rfl
        have e1 : (He.cT K ("law", none)).1 = cc := ec
        rw [e1] at TB
        exact bodylaw (TB := TB) (hmT := hmT) (hu := hu) (hk2 := by decide) (b_range := b_range) (b_len := b_len) (T_law_error := T_law_error) (h_law_cup := h_law_cup) (s_law_cup := s_law_cup) (l_law_cup := by decide) (h_law_some := h_law_some) (s_law_some := s_law_some) (l_law_some := by decide) (h_law_told_tree := h_law_told_tree) (s_law_told_tree := s_law_told_tree) (l_law_told_tree := by decide) (h_law_tree := h_law_tree) (s_law_tree := s_law_tree) (l_law_tree := by decide) (h_law_roll := h_law_roll) (s_law_roll := s_law_roll) (l_law_roll := by decide) (h_law_fraction := h_law_fraction) (s_law_fraction := s_law_fraction) (l_law_fraction := by decide) (h_law_right := h_law_right) (s_law_right := s_law_right) (l_law_right := by decide) (his_tree := his_tree) (sis_tree := sis_tree) (lis_tree := by decide) (h_law_parts := (hR_law_parts 12)) (s_law_parts := (sR_law_parts 12)) (l_law_parts := by decide) (his_algebraic := his_algebraic) (sis_algebraic := sis_algebraic) (lis_algebraic := by decide) (hsize_of := hsize_of) (ssize_of := ssize_of) (lsize_of := by decide) (hsort_at := hsort_at) (ssort_at := ssort_at) (lsort_at := by decide) (h_law_spoilt := h_law_spoilt) (s_law_spoilt := s_law_spoilt) (l_law_spoilt := by decide) (h_law_integrands_right := h_law_integrands_right) (s_law_integrands_right := s_law_integrands_right) (l_law_integrands_right := by decide) (his_integrand := his_integrand) (sis_integrand := sis_integrand) (lis_integrand := by decide) (hr := hr))
      (fun ds S Q E _ hc => law_ok ds S Q E hc)
  exact hlaw
def loose0 : List PySem.Str := ["__name__", "NearError", "InvalidTree", "InvalidNumber", "is_whole", "is_integer", "is_tuple_of", "GREATEST", "made", "fits_any", "fits_fraction", "is_less", "COEFFICIENT", "DEGREE", "fits_line", "NODES", "HEIGHT", "EXPONENT", "END", "ONE_PART", "TWO_PARTS", "SMOOTH", "TOLD", "is_end", "is_leaf"]
def loose1 : List PySem.Str := ["left_of", "fits_tree", "fits_integrand", "inner", "parts", "is_told", "need_tree", "is_tree", "is_integrand", "is_algebraic", "size_of", "sort_at", "_law_cup", "_law_roll", "_law_some", "_law_common", "_law_made", "_law_plus", "_law_minus", "_law_times", "_law_by", "_law_is_less", "_law_value", "_law_inner", "_law_parts"]
def loose2 : List PySem.Str := ["_law_fraction", "_law_line", "_law_told_tree", "_law_tree", "_law_error", "_law_spoilt", "_law_is_whole", "_law_is_any", "_law_is_fraction", "_law_is_line", "_law_is_tree", "_law_high", "_law_fits", "_law_right", "_law_integrands_right"]
abbrev loose : List PySem.Str := loose0 ++ loose1 ++ loose2
abbrev R : PySem.W.OpenRow := PySem.W.OpenLaw.row PySem.Challenge.rw_nearplain_k02_whole_trees_and_their_node
abbrev hk : PySem.W.Hook := He.hookX 4 fa fnl [] tf ex
def ob (s : PySem.W.SharedT) : He.AlX := He.obsX 4 fa fnl [] tf ex (HandSHeadRun.getT s)
theorem ob_eq (s : PySem.W.SharedT) : ob s = hk.obs s.abs := He.obsX_eq (HandSHeadRun.getT_eq s)
theorem run (w : World) : HandSHeadRun.RunEqI R (PySem.W.view R.prog [0, 71]) hk ob 6000 loose w := by
  unfold HandSHeadRun.RunEqI
  kernel_rfl
end LawX
open PySem PySem.W PySem.Calls PyProof.Rows
theorem PySem.Challenge.cw_nearplain_k02_whole_trees_and_their_node_holds : PySem.Challenge.rw_nearplain_k02_whole_trees_and_their_node.Holds := by
  w_on; o_law
  refine HandSHeadRun.head_imp (r := LawX.R) (q := view LawX.R.prog [0, 71]) (H := LawX.hk) (ob := LawX.ob) (M := 6000) (loose := LawX.loose) (d := HandSHeadRun.topDef LawX.R.prog 71) (kwd := []) LawX.ob_eq
     LawX.run (by kernel_rfl) (by kernel_rfl) (by kernel_rfl) (by rfl) (by first | assumption | decide +kernel) (by decide +kernel) ⟨rfl, rfl, rfl, rfl, rfl, by decide +kernel⟩ ?hw ?hc
  case hw => w_witness2
  case hc =>
    refine Dx.dx_walk (l := PySem.Challenge.rw_nearplain_k02_whole_trees_and_their_node) (n := 63) (nn := 4) (k := 30) (nm := "law") (x := "script") (st := LawX.stlaw) (c := fun _ _ => LawX.cLaw) rfl (by decide) (by kernel_rfl) (by kernel_rfl) ⟨rfl, by decide, by decide⟩ (fun K h => (Bool.and_eq_true_iff.mp h).1) (List.Mem.tail _ (List.Mem.tail _ (List.Mem.tail _ (List.Mem.tail _ (List.Mem.tail _ (List.Mem.tail _ (List.Mem.tail _ (List.Mem.tail _ (List.Mem.tail _ (List.Mem.tail _ (List.Mem.tail _ (List.Mem.tail _ (List.Mem.tail _ (List.Mem.tail _ (List.Mem.tail _ (List.Mem.tail _ (List.Mem.tail _ (List.Mem.tail _ (List.Mem.tail _ (List.Mem.tail _ (List.Mem.tail _ (List.Mem.tail _ (List.Mem.tail _ (List.Mem.tail _ (List.Mem.tail _ (List.Mem.tail _ (List.Mem.tail _ (List.Mem.tail _ (List.Mem.tail _ (List.Mem.tail _ (List.Mem.tail _ (List.Mem.tail _ (List.Mem.tail _ (List.Mem.tail _ (List.Mem.tail _ (List.Mem.tail _ (List.Mem.tail _ (List.Mem.tail _ (List.Mem.tail _ (List.Mem.tail _ (List.Mem.tail _ (List.Mem.tail _ (List.Mem.tail _ (List.Mem.head _)))))))))))))))))))))))))))))))))))))))))))) (List.mem_append_left _ (List.mem_append_right _ (List.Mem.tail _ (List.Mem.tail _ (List.Mem.tail _ (List.Mem.tail _ (List.Mem.tail _ (List.Mem.tail _ (List.Mem.tail _ (List.Mem.tail _ (List.Mem.tail _ (List.Mem.tail _ (List.Mem.tail _ (List.Mem.tail _ (List.Mem.tail _ (List.Mem.head _))))))))))))))))
      (by intro kV doc pm an cdv ct us hl; exact match us, hl with | [_], _ => by kernel_rfl) (fun w mg h K KX G Y base Kb Gb TB => LawX.chain KX G Y base Kb Gb TB) (fun w G ns hl hb => ⟨ns, rfl, hl, rfl, fun _ => rfl⟩)
