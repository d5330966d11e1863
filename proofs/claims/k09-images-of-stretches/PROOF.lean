import PyProof.Rows.All
import Wide.All
import OpenK.AllK
import Wide.FinOn
import HandS.ForMost
import HandS.Exc
import HandS.ExcOwn
import HandS.TryOnly
import HandS.TryMany
import HandS.WordsExc
import HandS.Lambda
import HandS.IsInst
import HandS.Style
import HandS.Wide
import HandS.Gcd
import HandS.Flow
import HandS.TupAny
import HandS.Deep
import HandS.TupMul
import PyProof.Rows.IntBool
import PyProof.Rows.RuleB_bool
import HandS.Text
import HandS.Iter
import HandS.Comp
import HandS.ExcValueHot
import HandS.Defaults
import HandS.HeadHook4
import HandS.HeadWalk
import HandS.Head2
import HandS.Zip
import HandS.TupLe
import HandS.SortRule
import KE.KEqDict
import HandS.Dict
import HandS.SortInts
import HandS.Conv
import HandS.TupSets
import PyProof.ReprRoads
import PyProof.ReprLen
import PyProof.FitsInt
import PySem.Challenge.RW_nearplain_k09_whole_images_of_stretches
import KE.KStateDown
import HandS.Head0
import HandS.Head1
import HandS.Head3
set_option Elab.async false
set_option linter.all false
set_option maxRecDepth 100000
set_option maxHeartbeats 4000000
/-! DX, part 1: plain data, how the heap bears it, what a state is. -/
namespace Dx
open PySem PySem.Spec PyProof.Rows L2

/-- plain data: tuples and lists that nobody changes are values; what is changed stands in the store -/
inductive D where
  | non | bl (b : Bool) | int (i : Int) | str (s : Str) | tup (ds : List D) | lst (ds : List D) | obj (n : Nat) | ty (n : String) | gl (x : Str) | exv (n : Nat)
  deriving Inhabited
/-- what stands in the store -/
inductive Ob where
  | dead | lst (ds : List D) | dct (kvs : List (List Key × D))
  deriving Inhabited
abbrev Store := List Ob
abbrev Env := List (Option D)
/-- where the store's objects stand (none: dead); the lists that comprehensions are filling -/
structure Mp where
  sl : List (Option Addr)
  hid : List Addr := []
/-- an exception: its class's name, its fields -/
structure Ex where
  cls : Str
  fs : List (Str × D) := []

def Live (m : Mp) (a : Addr) : Prop := (∃ n : Nat, m.sl[n]? = some (some a)) ∨ a ∈ m.hid
def KL (K : PySem.W.Frag) (a : Addr) (xs : List V) : Prop := ∃ (its : List Value) (n : Nat), K.lookup a = some { cls := .type "list", data := .seq its.toArray n } ∧ its.length ≤ sizeLine ∧ Vals xs its
/-- a list that is to be read -/
def SqX (K : PySem.W.Frag) (H : Hp) (a : Addr) (xs : List V) : Prop := Rd H a (.lst xs) ∨ KL K a xs
theorem SqX.sq {K : PySem.W.Frag} {H : Hp} {a : Addr} {xs : List V} (h : SqX K H a xs) : SqL K H a xs := by
  rcases h with h | ⟨its, n, h1, h2, h3⟩
  · exact .inl h
  · exact .inr ⟨_, its.toArray, n, h1, rfl, rfl, rfl, by simpa using h2, by simpa using h3⟩
theorem listX {X : Cx} {pins : List (Addr × Obj)} {σ : L2.St} {H : Hp} {s : Shared} {a : Addr} {xs : List V} (I : Inv X pins σ H s) (h : SqX X.K H a xs) :
    xs.length ≤ sizeLine ∧ ∃ (its : List Value) (n : Nat), Vals xs its ∧ xs.length = its.length ∧ s.heap.get? a = some { cls := .type "list", data := .seq its.toArray n } := by
  rcases h with h | ⟨its, n, h1, h2, h3⟩
  · obtain ⟨z, its, n, r, e⟩ := h.ok I.hok
    exact ⟨z, its, n, r, r.length, e⟩
  · exact ⟨by rw [h3.length]; exact h2, its, n, h3, h3.length, I.kIn a _ h1⟩

/-- the law's ground: the written part and the module's names -/
structure Gr where
  K : PySem.W.Frag
  mg : Str → Option Value
  T : List (Addr × Str) := []

mutual
inductive Rep (G : Gr) (m : Mp) (H : Hp) : V → D → Prop
  | non : Rep G m H .non .non
  | bl (b : Bool) : Rep G m H (.bl b) (.bl b)
  | int (i : Int) : Rep G m H (.int i) (.int i)
  | str (s : Str) : Rep G m H (.str s) (.str s)
  | tup {a : Addr} {xs : List V} {ds : List D} : SqT G.K H a xs → RepAll G m H xs ds → Rep G m H (.ref a) (.tup ds)
  | lst {a : Addr} {xs : List V} {ds : List D} : Rd H a (.lst xs) → ¬ Live m a → RepAll G m H xs ds → Rep G m H (.ref a) (.lst ds)
  | klst {a : Addr} {xs : List V} {ds : List D} : KL G.K a xs → RepAll G m H xs ds → Rep G m H (.ref a) (.lst ds)
  | obj {n : Nat} {a : Addr} : n < m.sl.length → (∀ a', m.sl[n]? = some (some a') → a' = a) → Rep G m H (.ref a) (.obj n)
  | ty (n : String) : Rep G m H (.ty n) (.ty n)
  | gl {x : Str} {a : Addr} : G.mg x = some (.ref a) → Rep G m H (.ref a) (.gl x)
  | exv {a : Addr} : Rep G m H (.ref a) (.exv a)
inductive RepAll (G : Gr) (m : Mp) (H : Hp) : List V → List D → Prop
  | nil : RepAll G m H [] []
  | cons {v : V} {vs : List V} {d : D} {ds : List D} : Rep G m H v d → RepAll G m H vs ds → RepAll G m H (v :: vs) (d :: ds)
end

/-- nothing is known at a, but perhaps a table -/
def NoT (H : Hp) (a : Addr) : Prop := ∀ o, H a = some o → ∃ ps, o = .tbl ps
theorem NoT.none {H : Hp} {a : Addr} (h : H a = none) : NoT H a := fun o e => by rw [h] at e; cases e
theorem NoT.ne {H H' : Hp} {b : Addr} (e : H' b = H b) (h : NoT H' b) : NoT H b := fun o q => h o (e.trans q)
/-- what stays from one state to a later one -/
structure Ext (m : Mp) (H : Hp) (m' : Mp) (H' : Hp) : Prop where
  len : m.sl.length ≤ m'.sl.length
  old : ∀ (n : Nat) a, n < m.sl.length → m'.sl[n]? = some (some a) → m.sl[n]? = some (some a)
  new : ∀ (n : Nat) a, m.sl.length ≤ n → m'.sl[n]? = some (some a) → NoT H a
  keep : ∀ b o, H b = some o → ¬ Live m b → (∀ ps, o ≠ .tbl ps) → H' b = some o
  there : ∀ b, NoT H' b → NoT H b
  hid : m'.hid = m.hid
  hidk : ∀ a ∈ m.hid, H' a = H a
theorem Ext.refl (m : Mp) (H : Hp) : Ext m H m H := ⟨Nat.le_refl _, fun _ _ _ h => h, fun n a h e => (by rw [List.getElem?_eq_none (by omega)] at e; cases e), fun _ _ h _ _ => h, fun _ h => h, rfl, fun _ _ => rfl⟩
theorem Ext.notLive {m m' : Mp} {H H' : Hp} (e : Ext m H m' H') {b : Addr} {o : HO} (h : H b = some o) (n : ¬ Live m b) (t : ∀ ps, o ≠ .tbl ps) : ¬ Live m' b := by
  rintro (⟨i, hi⟩ | hi)
  · by_cases hl : i < m.sl.length
    · exact n (.inl ⟨i, e.old i b hl hi⟩)
    · obtain ⟨ps, z⟩ := e.new i b (by omega) hi o h
      exact t ps z
  · rw [e.hid] at hi
    exact n (.inr hi)
theorem Ext.trans {m m1 m2 : Mp} {H H1 H2 : Hp} (a : Ext m H m1 H1) (b : Ext m1 H1 m2 H2) : Ext m H m2 H2 where
  len := Nat.le_trans a.len b.len
  old := fun n x hn h => a.old n x hn (b.old n x (Nat.lt_of_lt_of_le hn a.len) h)
  new := fun n x hn h => by
    by_cases hl : n < m1.sl.length
    · exact a.new n x hn (b.old n x hl h)
    · exact a.there x (b.new n x (by omega) h)
  keep := fun x o h n t => b.keep x o (a.keep x o h n t) (a.notLive h n t) t
  there := fun x h => a.there x (b.there x h)
  hid := b.hid.trans a.hid
  hidk := fun x hx => (b.hidk x (by rw [a.hid]; exact hx)).trans (a.hidk x hx)

section
variable {G : Gr} {m m' : Mp} {H H' : Hp}
theorem Ext.rd {a : Addr} {u : HO} (e : Ext m H m' H') (h : Rd H a u) (n : ¬ Live m a) (t : ∀ ps, u ≠ .tbl ps) : Rd H' a u := by
  rcases h with h | ⟨o, h⟩
  · exact .inl (e.keep _ _ h n t)
  · exact .inr ⟨o, e.keep _ _ h n (fun ps z => by cases z)⟩

/-- a dict's entries: keys are tuples of ints and texts -/
def keyI : Key → D
  | .inl i => .int i
  | .inr x => .str x
def keyT (k : List Key) : D := .tup (k.map keyI)
inductive DctR (G : Gr) (m : Mp) (H : Hp) : List (List Key × V) → List (List Key × D) → Prop
  | nil : DctR G m H [] []
  | cons {k : List Key} {v : V} {d : D} {ws : List (List Key × V)} {kvs : List (List Key × D)} : Rep G m H v d → DctR G m H ws kvs → DctR G m H ((k, v) :: ws) ((k, d) :: kvs)
/-- what stands at a live place -/
def LiveO (o : HO) : Prop := (∃ xs, o = .lst xs) ∨ ∃ ws, o = .dT ws
/-- the store: live places hold what the store says -/
def ObR (G : Gr) (m : Mp) (H : Hp) (a : Addr) : Ob → Prop
  | .dead => False
  | .lst ds => ∃ xs, H a = some (.lst xs) ∧ RepAll G m H xs ds
  | .dct kvs => ∃ ws, H a = some (.dT ws) ∧ DctR G m H ws kvs
structure SR (G : Gr) (m : Mp) (S : Store) (H : Hp) : Prop where
  len : S.length = m.sl.length
  inj : ∀ (i j : Nat) a, m.sl[i]? = some (some a) → m.sl[j]? = some (some a) → i = j
  at_ : ∀ (n : Nat) a o, m.sl[n]? = some (some a) → S[n]? = some o → ObR G m H a o
  tabs : LamX.Tabs G.T H
  dead : ∀ n : Nat, m.sl[n]? = some none → S[n]? = some .dead
  hidt : ∀ a ∈ m.hid, (∃ xs, H a = some (.lst xs)) ∧ ∀ n : Nat, m.sl[n]? ≠ some (some a)
/-- the tables stay where nothing is written but a list -/
theorem tabs_but {T : List (Addr × Str)} {H H' : Hp} (t : LamX.Tabs T H) (e : ∀ b o, H b = some o → ¬ LiveO o → H' b = some o) : LamX.Tabs T H' := fun p hp => by
  obtain ⟨ps, h1, h2, h3⟩ := t p hp
  refine ⟨ps, e _ _ h1 (fun z => by rcases z with ⟨xs, z⟩ | ⟨xs, z⟩ <;> cases z), h2, fun pos cv hc => ?_⟩
  obtain ⟨c, e1, e2⟩ := h3 pos cv hc
  exact ⟨c, e1, e _ _ e2 (fun z => by rcases z with ⟨xs, z⟩ | ⟨xs, z⟩ <;> (unfold LamX.CodeO at z; cases z))⟩
theorem SR.tracked (sr : SR G m S H) {a : Addr} (h : Live m a) : ∃ o, H a = some o ∧ LiveO o := by
  rcases h with ⟨n, hn⟩ | h
  rotate_left
  · obtain ⟨⟨xs, e⟩, _⟩ := sr.hidt a h
    exact ⟨_, e, .inl ⟨xs, rfl⟩⟩
  have hl : n < S.length := by rw [sr.len]; exact (List.getElem?_eq_some_iff.mp hn).1
  obtain ⟨o, ho⟩ : ∃ o, S[n]? = some o := ⟨S[n], List.getElem?_eq_getElem hl⟩
  have z := sr.at_ n a o hn ho
  cases o with
  | dead => exact z.elim
  | lst ds => obtain ⟨xs, h, _⟩ := z; exact ⟨_, h, .inl ⟨xs, rfl⟩⟩
  | dct kvs => obtain ⟨xs, h, _⟩ := z; exact ⟨_, h, .inr ⟨xs, rfl⟩⟩
/-- no tuple is live -/
theorem SR.notTup (sr : SR G m S H) {a : Addr} {xs : List V} (h : Rd H a (.tup xs)) : ¬ Live m a := fun l => by
  obtain ⟨o', e, z⟩ := sr.tracked l
  rcases h with h | ⟨o, h⟩ <;> (rw [h] at e; cases e; rcases z with ⟨_, z⟩ | ⟨_, z⟩ <;> cases z)
theorem SR.notFrz (sr : SR G m S H) {a : Addr} {o : Obj} {u : HO} (h : H a = some (.frz o u)) : ¬ Live m a := fun l => by
  obtain ⟨o', e, z⟩ := sr.tracked l
  rw [h] at e; cases e; rcases z with ⟨_, z⟩ | ⟨_, z⟩ <;> cases z
/-- an address without content is not live -/
theorem SR.notNone (sr : SR G m S H) {a : Addr} (h : H a = none) : ¬ Live m a := fun l => by
  obtain ⟨o', e, z⟩ := sr.tracked l
  rw [h] at e; cases e
end

/-- what keeps the meaning of data -/
structure Ext0 (m : Mp) (H : Hp) (m' : Mp) (H' : Hp) : Prop where
  len : m.sl.length ≤ m'.sl.length
  old : ∀ (n : Nat) a, n < m.sl.length → m'.sl[n]? = some (some a) → m.sl[n]? = some (some a)
  keep : ∀ b o, H b = some o → ¬ Live m b → (∀ ps, o ≠ .tbl ps) → H' b = some o
  nl : ∀ b o, H b = some o → ¬ Live m b → (∀ ps, o ≠ .tbl ps) → ¬ Live m' b
theorem Ext.to0 {m m' : Mp} {H H' : Hp} (e : Ext m H m' H') : Ext0 m H m' H' := ⟨e.len, e.old, e.keep, fun _ _ h n t => e.notLive h n t⟩
theorem Ext0.rd {m m' : Mp} {H H' : Hp} {a : Addr} {u : HO} (e : Ext0 m H m' H') (h : Rd H a u) (n : ¬ Live m a) (t : ∀ ps, u ≠ .tbl ps) : Rd H' a u ∧ ¬ Live m' a := by
  rcases h with h | ⟨o, h⟩
  · exact ⟨.inl (e.keep _ _ h n t), e.nl _ _ h n t⟩
  · exact ⟨.inr ⟨o, e.keep _ _ h n (fun ps z => by cases z)⟩, e.nl _ _ h n (fun ps z => by cases z)⟩
mutual
theorem Rep.mono0 {G : Gr} {m m' : Mp} {S : Store} {H H' : Hp} (sr : SR G m S H) (e : Ext0 m H m' H') : ∀ {v : V} {d : D}, Rep G m H v d → Rep G m' H' v d
  | _, _, .non => .non
  | _, _, .bl b => .bl b
  | _, _, .int i => .int i
  | _, _, .str s => .str s
  | _, _, .tup h r => .tup (by
      rcases h with h | h
      · exact .inl (e.rd h (sr.notTup h) (fun ps z => by cases z)).1
      · exact .inr h) (RepAll.mono0 sr e r)
  | _, _, .lst h n r => .lst (e.rd h n (fun ps z => by cases z)).1 (e.rd h n (fun ps z => by cases z)).2 (RepAll.mono0 sr e r)
  | _, _, .klst h r => .klst h (RepAll.mono0 sr e r)
  | _, _, .obj h1 h2 => .obj (Nat.lt_of_lt_of_le h1 e.len) (fun a' h => h2 a' (e.old _ _ h1 h))
  | _, _, .ty n => .ty n
  | _, _, .gl h => .gl h
  | _, _, .exv => .exv
theorem RepAll.mono0 {G : Gr} {m m' : Mp} {S : Store} {H H' : Hp} (sr : SR G m S H) (e : Ext0 m H m' H') : ∀ {xs : List V} {ds : List D}, RepAll G m H xs ds → RepAll G m' H' xs ds
  | _, _, .nil => .nil
  | _, _, .cons a r => .cons (Rep.mono0 sr e a) (RepAll.mono0 sr e r)
end
theorem Rep.mono {G : Gr} {m m' : Mp} {S : Store} {H H' : Hp} (sr : SR G m S H) (e : Ext m H m' H') {v : V} {d : D} (r : Rep G m H v d) : Rep G m' H' v d := r.mono0 sr e.to0
theorem RepAll.mono {G : Gr} {m m' : Mp} {S : Store} {H H' : Hp} (sr : SR G m S H) (e : Ext m H m' H') {xs : List V} {ds : List D} (r : RepAll G m H xs ds) : RepAll G m' H' xs ds := r.mono0 sr e.to0
theorem DctR.mono0 {G : Gr} {m m' : Mp} {S : Store} {H H' : Hp} (sr : SR G m S H) (e : Ext0 m H m' H') : ∀ {ws : List (List Key × V)} {kvs : List (List Key × D)}, DctR G m H ws kvs → DctR G m' H' ws kvs
  | _, _, .nil => .nil
  | _, _, .cons a r => .cons (a.mono0 sr e) (DctR.mono0 sr e r)
theorem DctR.mono {G : Gr} {m m' : Mp} {S : Store} {H H' : Hp} (sr : SR G m S H) (e : Ext m H m' H') {ws : List (List Key × V)} {kvs : List (List Key × D)} (r : DctR G m H ws kvs) : DctR G m' H' ws kvs := r.mono0 sr e.to0
theorem DctR.length {G : Gr} {m : Mp} {H : Hp} : ∀ {ws : List (List Key × V)} {kvs : List (List Key × D)}, DctR G m H ws kvs → ws.length = kvs.length
  | _, _, .nil => rfl
  | _, _, .cons _ r => by simp [DctR.length r]
theorem RepAll.length {G : Gr} {m : Mp} {H : Hp} : ∀ {xs : List V} {ds : List D}, RepAll G m H xs ds → xs.length = ds.length
  | _, _, .nil => rfl
  | _, _, .cons _ r => by simp [RepAll.length r]
theorem RepAll.get {G : Gr} {m : Mp} {H : Hp} : ∀ {xs : List V} {ds : List D} {i : Nat} {d : D}, RepAll G m H xs ds → ds[i]? = some d → ∃ v, xs[i]? = some v ∧ Rep G m H v d
  | _, _, 0, _, .cons a _, e => by simp at e; subst e; exact ⟨_, rfl, a⟩
  | _, _, i + 1, _, .cons _ r, e => by
    obtain ⟨v, h1, h2⟩ := RepAll.get (i := i) r (by simpa using e)
    exact ⟨v, by simpa using h1, h2⟩
theorem RepAll.getV {G : Gr} {m : Mp} {H : Hp} : ∀ {xs : List V} {ds : List D} {i : Nat} {v : V}, RepAll G m H xs ds → xs[i]? = some v → ∃ d, ds[i]? = some d ∧ Rep G m H v d
  | _, _, 0, _, .cons a _, e => by simp at e; subst e; exact ⟨_, rfl, a⟩
  | _, _, i + 1, _, .cons _ r, e => by
    obtain ⟨v, h1, h2⟩ := RepAll.getV (i := i) r (by simpa using e)
    exact ⟨v, by simpa using h1, h2⟩
theorem RepAll.append {G : Gr} {m : Mp} {H : Hp} : ∀ {xs ys : List V} {ds es : List D}, RepAll G m H xs ds → RepAll G m H ys es → RepAll G m H (xs ++ ys) (ds ++ es)
  | _, _, _, _, .nil, s => s
  | _, _, _, _, .cons a r, s => .cons a (RepAll.append r s)
theorem RepAll.take {G : Gr} {m : Mp} {H : Hp} : ∀ {xs : List V} {ds : List D} (n : Nat), RepAll G m H xs ds → RepAll G m H (xs.take n) (ds.take n)
  | _, _, 0, _ => .nil
  | _, _, _ + 1, .nil => .nil
  | _, _, n + 1, .cons a r => .cons a (RepAll.take n r)
theorem RepAll.drop {G : Gr} {m : Mp} {H : Hp} : ∀ {xs : List V} {ds : List D} (n : Nat), RepAll G m H xs ds → RepAll G m H (xs.drop n) (ds.drop n)
  | _, _, 0, r => r
  | _, _, _ + 1, .nil => .nil
  | _, _, n + 1, .cons _ r => RepAll.drop n r
theorem RepAll.set {G : Gr} {m : Mp} {H : Hp} {v : V} {d : D} (q : Rep G m H v d) : ∀ {xs : List V} {ds : List D} (n : Nat), RepAll G m H xs ds → RepAll G m H (xs.set n v) (ds.set n d)
  | _, _, _, .nil => .nil
  | _, _, 0, .cons _ r => .cons q r
  | _, _, n + 1, .cons a r => .cons a (RepAll.set q n r)
theorem RepAll.reverse {G : Gr} {m : Mp} {H : Hp} : ∀ {xs : List V} {ds : List D}, RepAll G m H xs ds → RepAll G m H xs.reverse ds.reverse
  | _, _, .nil => .nil
  | _, _, .cons a r => by rw [List.reverse_cons, List.reverse_cons]; exact (RepAll.reverse r).append (.cons a .nil)

/-- the frame's names -/
structure EnvR (G : Gr) (m : Mp) (H : Hp) (σ : L2.St) (τ : Env) : Prop where
  len : σ.length = τ.length
  at_ : ∀ (i : Nat) d, τ[i]? = some (some d) → ∃ v, σ[i]? = some (some v) ∧ Rep G m H v d
theorem EnvR.mono0 {G : Gr} {m m' : Mp} {S : Store} {H H' : Hp} {σ : L2.St} {τ : Env} (sr : SR G m S H) (e : Ext0 m H m' H') (r : EnvR G m H σ τ) : EnvR G m' H' σ τ :=
  ⟨r.len, fun i d h => let ⟨v, h1, h2⟩ := r.at_ i d h; ⟨v, h1, h2.mono0 sr e⟩⟩
theorem EnvR.mono {G : Gr} {m m' : Mp} {S : Store} {H H' : Hp} {σ : L2.St} {τ : Env} (sr : SR G m S H) (e : Ext m H m' H') (r : EnvR G m H σ τ) : EnvR G m' H' σ τ :=
  ⟨r.len, fun i d h => let ⟨v, h1, h2⟩ := r.at_ i d h; ⟨v, h1, h2.mono sr e⟩⟩
theorem EnvR.set {G : Gr} {m : Mp} {H : Hp} {σ : L2.St} {τ : Env} {v : V} {d : D} (r : EnvR G m H σ τ) (q : Rep G m H v d) (i : Nat) : EnvR G m H (σ.set i (some v)) (τ.set i (some d)) := by
  refine ⟨by simp [r.len], fun j d' h => ?_⟩
  by_cases hj : i = j
  · subst hj
    by_cases hl : i < τ.length
    · rw [List.getElem?_set_self hl] at h
      cases h
      exact ⟨v, by rw [List.getElem?_set_self (by rw [r.len]; exact hl)], q⟩
    · rw [List.getElem?_eq_none (by simpa using hl)] at h; cases h
  · rw [List.getElem?_set_ne hj] at h
    obtain ⟨w, h1, h2⟩ := r.at_ j d' h
    exact ⟨w, by rw [List.getElem?_set_ne hj]; exact h1, h2⟩
theorem EnvR.unset {G : Gr} {m : Mp} {H : Hp} {σ : L2.St} {τ : Env} (r : EnvR G m H σ τ) (i : Nat) : EnvR G m H (σ.set i none) (τ.set i none) := by
  refine ⟨by simp [r.len], fun j d' h => ?_⟩
  by_cases hj : i = j
  · subst hj
    by_cases hl : i < τ.length
    · rw [List.getElem?_set_self hl] at h; cases h
    · rw [List.getElem?_eq_none (by simpa using hl)] at h; cases h
  · rw [List.getElem?_set_ne hj] at h
    obtain ⟨w, h1, h2⟩ := r.at_ j d' h
    exact ⟨w, by rw [List.getElem?_set_ne hj]; exact h1, h2⟩

/-! ### new things -/
section
variable {G : Gr} {m : Mp} {S : Store} {H : Hp}
/-- something is laid at a free place; the store stays -/
theorem NoT.upd {p b : Addr} {o : HO} {H : Hp} (hp : NoT H p) (h : NoT (L2.upd H p o) b) : NoT H b := by
  by_cases hb : b = p
  · subst hb; exact hp
  · exact h.ne (upd_ne hb)
theorem Ext.upd {p : Addr} {o : HO} (sr : SR G m S H) (hp : H p = none) : Ext m H m (L2.upd H p o) :=
  ⟨Nat.le_refl _, fun _ _ _ h => h, fun n a h e => (by rw [List.getElem?_eq_none (by omega)] at e; cases e), fun b o' h _ _ => by rw [upd_ne (ne_of_none h hp)]; exact h,
   fun b h => NoT.upd (.none hp) h, rfl, fun a ha => upd_ne (fun z => sr.notNone hp (by rw [← z]; exact .inr ha))⟩
theorem SR.ext_same {H' : Hp} (sr : SR G m S H) (e : Ext m H m H') (k : ∀ a, Live m a → H' a = H a) (tb : LamX.Tabs G.T H') : SR G m S H' := by
  refine ⟨sr.len, sr.inj, fun n a o h1 h2 => ?_, tb, sr.dead, fun a ha => ⟨by rw [k a (.inr ha)]; exact (sr.hidt a ha).1, (sr.hidt a ha).2⟩⟩
  have z := sr.at_ n a o h1 h2
  cases o with
  | dead => exact z.elim
  | lst ds => obtain ⟨xs, h, r⟩ := z; exact ⟨xs, (k a (.inl ⟨n, h1⟩)).trans h, r.mono sr e⟩
  | dct kvs => obtain ⟨xs, h, r⟩ := z; exact ⟨xs, (k a (.inl ⟨n, h1⟩)).trans h, r.mono sr e⟩
theorem SR.upd {p : Addr} {o : HO} (sr : SR G m S H) (hp : H p = none) : SR G m S (L2.upd H p o) :=
  sr.ext_same (Ext.upd sr hp) (fun a l => upd_ne (fun z => sr.notNone hp (z ▸ l))) (sr.tabs.ext fun b o e => (upd_ne (ne_of_none e hp)).trans e)
/-- a new object of the store -/
theorem get_snoc {α : Type} {l : List α} {x : α} {n : Nat} {y : α} (h : (l ++ [x])[n]? = some y) : l[n]? = some y ∨ (n = l.length ∧ y = x) := by
  by_cases hl : n < l.length
  · rw [List.getElem?_append_left hl] at h; exact .inl h
  · rw [List.getElem?_append_right (by omega)] at h
    have : n - l.length = 0 := by
      cases q : n - l.length with
      | zero => rfl
      | succ k => rw [q] at h; simp at h
    rw [this] at h
    simp at h
    exact .inr ⟨by omega, h.symm⟩
def Mp.snoc (m : Mp) (p : Addr) : Mp := ⟨m.sl ++ [some p], m.hid⟩
def Mp.kill (m : Mp) (n : Nat) : Mp := ⟨m.sl.set n none, m.hid⟩
theorem Ext.obj {p : Addr} {o : HO} (sr : SR G m S H) (hp : H p = none) : Ext m H (m.snoc p) (L2.upd H p o) where
  len := by simp [Mp.snoc]
  old := fun n a hn h => by
    have h : (m.sl ++ [some p])[n]? = _ := h
    rw [List.getElem?_append_left hn] at h; exact h
  new := fun n a hn h => by
    rcases get_snoc h with h | ⟨_, h⟩
    · rw [List.getElem?_eq_none (by omega)] at h; cases h
    · cases h; exact .none hp
  keep := fun b o' h _ _ => by rw [upd_ne (ne_of_none h hp)]; exact h
  there := fun b h => (Ext.upd (o := o) sr hp).there b h
  hid := rfl
  hidk := fun a ha => upd_ne (fun z => sr.notNone hp (by rw [← z]; exact .inr ha))
/-- what an object is, by its content -/
def ObV (G : Gr) (m : Mp) (H : Hp) (u : HO) : Ob → Prop
  | .dead => False
  | .lst ds => ∃ xs, u = .lst xs ∧ RepAll G m H xs ds
  | .dct kvs => ∃ ws, u = .dT ws ∧ DctR G m H ws kvs
theorem ObV.mono {m' : Mp} {H' : Hp} {u : HO} {ob : Ob} (sr : SR G m S H) (e : Ext m H m' H') (r : ObV G m H u ob) : ObV G m' H' u ob := by
  cases ob with
  | dead => exact r.elim
  | lst ds => obtain ⟨xs, rfl, q⟩ := r; exact ⟨xs, rfl, q.mono sr e⟩
  | dct kvs => obtain ⟨xs, rfl, q⟩ := r; exact ⟨xs, rfl, q.mono sr e⟩
theorem ObV.obR {a : Addr} {u : HO} {ob : Ob} (r : ObV G m H u ob) (h : H a = some u) : ObR G m H a ob := by
  cases ob with
  | dead => exact r.elim
  | lst ds => obtain ⟨xs, rfl, q⟩ := r; exact ⟨xs, h, q⟩
  | dct kvs => obtain ⟨xs, rfl, q⟩ := r; exact ⟨xs, h, q⟩
theorem SR.objG {p : Addr} {u : HO} {ob : Ob} (sr : SR G m S H) (hp : H p = none) (r : ObV G m H u ob) : SR G (m.snoc p) (S ++ [ob]) (L2.upd H p u) := by
  have e : Ext m H (m.snoc p) (L2.upd H p u) := Ext.obj sr hp
  refine ⟨by simp [sr.len, Mp.snoc], fun i j a h1 h2 => ?_, fun n a o h1 h2 => ?_, sr.tabs.ext fun b o e => (upd_ne (ne_of_none e hp)).trans e, fun n h => ?_, fun a ha => ⟨?_, fun n h => ?_⟩⟩
  · rcases get_snoc h1 with h1 | ⟨e1, h1⟩ <;> rcases get_snoc h2 with h2 | ⟨e2, h2⟩
    · exact sr.inj i j a h1 h2
    · cases h2; exact absurd (.inl ⟨i, h1⟩) (sr.notNone hp)
    · cases h1; exact absurd (.inl ⟨j, h2⟩) (sr.notNone hp)
    · omega
  · rcases get_snoc h1 with h1 | ⟨e1, h1⟩
    · have hl : n < S.length := by rw [sr.len]; exact (List.getElem?_eq_some_iff.mp h1).1
      rw [List.getElem?_append_left hl] at h2
      have z := sr.at_ n a o h1 h2
      have na : a ≠ p := fun z => sr.notNone hp (z ▸ .inl ⟨n, h1⟩)
      cases o with
      | dead => exact z.elim
      | lst es => obtain ⟨ys, h, q⟩ := z; exact ⟨ys, (upd_ne na).trans h, q.mono sr e⟩
      | dct kvs => obtain ⟨ys, h, q⟩ := z; exact ⟨ys, (upd_ne na).trans h, q.mono sr e⟩
    · cases h1
      rw [e1, ← sr.len, List.getElem?_append_right (Nat.le_refl _)] at h2
      simp at h2
      subst h2
      exact (r.mono sr e).obR upd_same
  · rcases get_snoc h with h | ⟨_, h⟩
    · have hl : n < S.length := by rw [sr.len]; exact (List.getElem?_eq_some_iff.mp h).1
      rw [List.getElem?_append_left hl]
      exact sr.dead n h
    · cases h
  · have ha : a ∈ m.hid := ha
    rw [upd_ne (fun z => sr.notNone hp (by rw [← z]; exact .inr ha))]
    exact (sr.hidt a ha).1
  · rcases get_snoc h with h | ⟨_, h⟩
    · exact (sr.hidt a ha).2 n h
    · cases h; exact sr.notNone hp (.inr ha)
theorem SR.obj {p : Addr} {xs : List V} {ds : List D} (sr : SR G m S H) (hp : H p = none) (r : RepAll G m H xs ds) : SR G (m.snoc p) (S ++ [.lst ds]) (L2.upd H p (.lst xs)) := sr.objG hp ⟨xs, rfl, r⟩
theorem rep_obj {p : Addr} {H' : Hp} : Rep G (m.snoc p) H' (.ref p) (.obj m.sl.length) := .obj (by simp [Mp.snoc]) (fun a' h => by simp [Mp.snoc] at h; exact h.symm)
/-- a list of the store is written -/
theorem Ext.write {n : Nat} {a : Addr} {o : HO} (sr : SR G m S H) (h : m.sl[n]? = some (some a)) (ht : ∀ ps, o ≠ .tbl ps := by intro ps z; cases z) : Ext m H m (L2.upd H a o) :=
  ⟨Nat.le_refl _, fun _ _ _ h => h, fun i b hi e => (by rw [List.getElem?_eq_none (by omega)] at e; cases e), fun b o' hb nl _ => (by rw [upd_ne (fun z => nl (by rw [z]; exact .inl ⟨n, h⟩))]; exact hb),
   fun b hb => (by
    by_cases e : b = a
    · subst e
      obtain ⟨zs, hz, _⟩ := sr.tracked (.inl ⟨n, h⟩)
      obtain ⟨ps, z⟩ := hb o upd_same
      exact absurd z (ht ps)
    · exact hb.ne (upd_ne e)), rfl, fun b hb => upd_ne (fun z => (sr.hidt b hb).2 n (by rw [z]; exact h))⟩
theorem SR.writeG {n : Nat} {a : Addr} {u : HO} {ob : Ob} (sr : SR G m S H) (h : m.sl[n]? = some (some a)) (r : ObV G m H u ob) (ht : ∀ ps, u ≠ .tbl ps) : SR G m (S.set n ob) (L2.upd H a u) := by
  have e : Ext m H m (L2.upd H a u) := Ext.write sr h ht
  obtain ⟨zs, hz, hz2⟩ := sr.tracked (.inl ⟨n, h⟩)
  refine ⟨by simp [sr.len], sr.inj, fun i b o h1 h2 => ?_, tabs_but sr.tabs fun b o hb nl => (upd_ne (fun z => nl (by rw [z, hz] at hb; exact Option.some.inj hb ▸ hz2))).trans hb, fun i hi => (by
    rw [List.getElem?_set_ne (by rintro rfl; rw [h] at hi; cases hi)]
    exact sr.dead i hi), fun b hb => ⟨by rw [e.hidk b hb]; exact (sr.hidt b hb).1, (sr.hidt b hb).2⟩⟩
  by_cases hi : n = i
  · subst hi
    rw [h] at h1; cases h1
    have hl : n < S.length := by rw [sr.len]; exact (List.getElem?_eq_some_iff.mp h).1
    rw [List.getElem?_set_self hl] at h2
    cases h2
    exact (r.mono sr e).obR upd_same
  · rw [List.getElem?_set_ne hi] at h2
    have z := sr.at_ i b o h1 h2
    have nb : b ≠ a := fun z => hi (sr.inj n i a h (z ▸ h1))
    cases o with
    | dead => exact z.elim
    | lst es => obtain ⟨ys, h, q⟩ := z; exact ⟨ys, (upd_ne nb).trans h, q.mono sr e⟩
    | dct kvs => obtain ⟨ys, h, q⟩ := z; exact ⟨ys, (upd_ne nb).trans h, q.mono sr e⟩
theorem SR.write {n : Nat} {a : Addr} {xs : List V} {ds : List D} (sr : SR G m S H) (h : m.sl[n]? = some (some a)) (r : RepAll G m H xs ds) : SR G m (S.set n (.lst ds)) (L2.upd H a (.lst xs)) := sr.writeG h ⟨xs, rfl, r⟩ (fun _ z => nomatch z)
/-- a list of the store is told as a value; its place is dead from then on -/
theorem Ext.frozen {n : Nat} : Ext m H (m.kill n) H where
  len := by simp [Mp.kill]
  old := fun i a hi h => by
    have h : (m.sl.set n none)[i]? = _ := h
    by_cases e : n = i
    · subst e; rw [List.getElem?_set_self (by simpa using hi)] at h; cases h
    · rw [List.getElem?_set_ne e] at h; exact h
  new := fun i a hi h => by
    have h : (m.sl.set n none)[i]? = _ := h
    rw [List.getElem?_eq_none (by simpa using hi)] at h; cases h
  keep := fun _ _ h _ _ => h
  there := fun _ h => h
  hid := rfl
  hidk := fun _ _ => rfl
theorem kill_back {n i : Nat} {a : Addr} (h : (m.kill n).sl[i]? = some (some a)) : i ≠ n ∧ m.sl[i]? = some (some a) := by
  have h : (m.sl.set n none)[i]? = _ := h
  by_cases e : n = i
  · subst e
    by_cases hl : n < m.sl.length
    · rw [List.getElem?_set_self hl] at h; cases h
    · rw [List.getElem?_eq_none (by simpa using hl)] at h; cases h
  · rw [List.getElem?_set_ne e] at h; exact ⟨fun z => e z.symm, h⟩
theorem SR.frozen {n : Nat} (sr : SR G m S H) : SR G (m.kill n) (S.set n .dead) H := by
  refine ⟨by simp [sr.len, Mp.kill], fun i j a h1 h2 => sr.inj i j a (kill_back h1).2 (kill_back h2).2, fun i a o h1 h2 => ?_, sr.tabs, fun i hi => ?_, fun a ha => ⟨(sr.hidt a ha).1, fun i h => (sr.hidt a ha).2 i (kill_back h).2⟩⟩
  · obtain ⟨ne, h1⟩ := kill_back h1
    rw [List.getElem?_set_ne (Ne.symm ne)] at h2
    have z := sr.at_ i a o h1 h2
    cases o with
    | dead => exact z.elim
    | lst es => obtain ⟨ys, h, q⟩ := z; exact ⟨ys, h, q.mono sr Ext.frozen⟩
    | dct kvs => obtain ⟨ys, h, q⟩ := z; exact ⟨ys, h, q.mono sr Ext.frozen⟩
  · have hi : (m.sl.set n none)[i]? = _ := hi
    by_cases e : n = i
    · subst e
      by_cases hl : n < S.length
      · rw [List.getElem?_set_self hl]
      · rw [List.getElem?_eq_none (by simp; rw [← sr.len]; omega)] at hi; cases hi
    · rw [List.getElem?_set_ne e] at hi ⊢
      exact sr.dead i hi
theorem rep_frozen {n : Nat} {a : Addr} {ds : List D} (sr : SR G m S H) (h : m.sl[n]? = some (some a)) (hs : S[n]? = some (.lst ds)) : Rep G (m.kill n) H (.ref a) (.lst ds) := by
  obtain ⟨xs, hx, r⟩ := sr.at_ n a _ h hs
  refine .lst (.inl hx) (fun l => ?_) (r.mono sr Ext.frozen)
  rcases l with ⟨i, hi⟩ | hi
  · obtain ⟨ne, h1⟩ := kill_back hi
    exact ne (sr.inj n i a h h1).symm
  · exact (sr.hidt a hi).2 n h
/-! a list that a comprehension fills -/
def Mp.hide (m : Mp) (p : Addr) : Mp := ⟨m.sl, p :: m.hid⟩
def Mp.hidAs (m : Mp) (l : List Addr) : Mp := ⟨m.sl, l⟩
theorem Ext0.hide {p : Addr} {o : HO} (hp : H p = none) : Ext0 m H (m.hide p) (L2.upd H p o) := by
  refine ⟨Nat.le_refl _, fun _ _ _ h => h, fun b o' h _ _ => (upd_ne (ne_of_none h hp)).trans h, fun b o' h n _ l => n ?_⟩
  rcases l with l | l
  · exact .inl l
  · rcases List.mem_cons.mp l with z | l
    · rw [z, hp] at h; cases h
    · exact .inr l
theorem SR.hide {p : Addr} (sr : SR G m S H) (hp : H p = none) : SR G (m.hide p) S (L2.upd H p (.lst [])) := by
  refine ⟨sr.len, sr.inj, fun n a o h1 h2 => ?_, sr.tabs.ext fun b o e => (upd_ne (ne_of_none e hp)).trans e, sr.dead, fun a ha => ?_⟩
  · have h1 : m.sl[n]? = some (some a) := h1
    have na : a ≠ p := fun z => sr.notNone hp (z ▸ .inl ⟨n, h1⟩)
    have z := sr.at_ n a o h1 h2
    cases o with
    | dead => exact z.elim
    | lst es => obtain ⟨ys, h, q⟩ := z; exact ⟨ys, (upd_ne na).trans h, q.mono0 sr (Ext0.hide hp)⟩
    | dct kvs => obtain ⟨ys, h, q⟩ := z; exact ⟨ys, (upd_ne na).trans h, q.mono0 sr (Ext0.hide hp)⟩
  · rcases List.mem_cons.mp ha with rfl | ha
    · exact ⟨⟨[], upd_same⟩, fun n h => sr.notNone hp (.inl ⟨n, h⟩)⟩
    · rw [upd_ne (fun z => sr.notNone hp (by rw [← z]; exact .inr ha))]
      exact sr.hidt a ha
/-- a hidden list is filled -/
theorem Ext0.fill {p : Addr} {o : HO} (hp : p ∈ m.hid) : Ext0 m H m (L2.upd H p o) :=
  ⟨Nat.le_refl _, fun _ _ _ h => h, fun b o' h n _ => (upd_ne (fun z => n (by rw [z]; exact .inr hp))).trans h, fun _ _ _ n _ => n⟩
theorem SR.fill {p : Addr} {xs : List V} (sr : SR G m S H) (hp : p ∈ m.hid) : SR G m S (L2.upd H p (.lst xs)) := by
  obtain ⟨⟨zs, hz⟩, ns⟩ := sr.hidt p hp
  refine ⟨sr.len, sr.inj, fun n a o h1 h2 => ?_, tabs_but sr.tabs fun b o hb nl => (upd_ne (fun z => nl (by rw [z, hz] at hb; exact Option.some.inj hb ▸ .inl ⟨zs, rfl⟩))).trans hb, sr.dead, fun a ha => ?_⟩
  · have na : a ≠ p := fun z => ns n (z ▸ h1)
    have z := sr.at_ n a o h1 h2
    cases o with
    | dead => exact z.elim
    | lst es => obtain ⟨ys, h, q⟩ := z; exact ⟨ys, (upd_ne na).trans h, q.mono0 sr (Ext0.fill hp)⟩
    | dct kvs => obtain ⟨ys, h, q⟩ := z; exact ⟨ys, (upd_ne na).trans h, q.mono0 sr (Ext0.fill hp)⟩
  · by_cases e : a = p
    · subst e; exact ⟨⟨xs, upd_same⟩, ns⟩
    · rw [upd_ne e]; exact sr.hidt a ha
section
variable {m0 m1 m2 : Mp} {H0 H1 H2 : Hp} {p : Addr}
/-- seen from outside: a step with the hidden list at p -/
theorem Ext.outer (a : Ext m0 H0 (m1.hidAs m0.hid) H1) (hp : H0 p = none) (hh : m1.hid = p :: m0.hid) (b : Ext m1 H1 m2 H2) : Ext m0 H0 (m2.hidAs m0.hid) H2 where
  len := Nat.le_trans a.len b.len
  old := fun n x hn h => a.old n x hn (b.old n x (Nat.lt_of_lt_of_le hn a.len) h)
  new := fun n x hn h => by
    by_cases hl : n < m1.sl.length
    · exact a.new n x hn (b.old n x hl h)
    · exact a.there x (b.new n x (by omega) h)
  keep := fun x o h n t => b.keep x o (a.keep x o h n t) (fun l => by
    rcases l with l | l
    · exact a.notLive h n t (.inl l)
    · rw [hh] at l
      rcases List.mem_cons.mp l with z | l
      · rw [z, hp] at h; cases h
      · exact n (.inr l)) t
  there := fun x h => a.there x (b.there x h)
  hid := rfl
  hidk := fun x hx => (b.hidk x (by rw [hh]; exact List.mem_cons_of_mem _ hx)).trans (a.hidk x hx)
theorem Ext.outerFill {o : HO} {S0 : Store} (sr : SR G m0 S0 H0) (a : Ext m0 H0 (m1.hidAs m0.hid) H1) (hp : H0 p = none) : Ext m0 H0 (m1.hidAs m0.hid) (L2.upd H1 p o) where
  len := a.len
  old := a.old
  new := a.new
  keep := fun x o h n t => (upd_ne (ne_of_none h hp)).trans (a.keep x o h n t)
  there := fun x h => by
    by_cases e : x = p
    · subst e; exact .none hp
    · exact a.there x (h.ne (upd_ne e))
  hid := rfl
  hidk := fun x hx => (upd_ne (fun z => sr.notNone hp (by rw [← z]; exact .inr hx))).trans (a.hidk x hx)
/-- the comprehension's end: its list is a value -/
theorem Ext0.unhide {l : List Addr} (hh : m.hid = p :: l) : Ext0 m H (m.hidAs l) H :=
  ⟨Nat.le_refl _, fun _ _ _ h => h, fun _ _ h _ _ => h, fun b _ _ n _ q => n (by
    rcases q with q | q
    · exact .inl q
    · exact .inr (by rw [hh]; exact List.mem_cons_of_mem _ q))⟩
theorem SR.unhide {l : List Addr} (sr : SR G m S H) (hh : m.hid = p :: l) : SR G (m.hidAs l) S H := by
  refine ⟨sr.len, sr.inj, fun n a o h1 h2 => ?_, sr.tabs, sr.dead, fun a ha => sr.hidt a (by rw [hh]; exact List.mem_cons_of_mem _ ha)⟩
  have z := sr.at_ n a o h1 h2
  cases o with
  | dead => exact z.elim
  | lst es => obtain ⟨ys, h, q⟩ := z; exact ⟨ys, h, q.mono0 sr (Ext0.unhide hh)⟩
  | dct kvs => obtain ⟨ys, h, q⟩ := z; exact ⟨ys, h, q.mono0 sr (Ext0.unhide hh)⟩
theorem rep_unhide {l : List Addr} {xs : List V} {ds : List D} (sr : SR G m S H) (hh : m.hid = p :: l) (hl : p ∉ l) (h : H p = some (.lst xs)) (r : RepAll G m H xs ds) : Rep G (m.hidAs l) H (.ref p) (.lst ds) := by
  refine .lst (.inl h) (fun q => ?_) (r.mono0 sr (Ext0.unhide hh))
  rcases q with ⟨n, q⟩ | q
  · exact (sr.hidt p (by rw [hh]; exact List.mem_cons_self)).2 n q
  · exact hl q
/-- .. or an object of the store -/
theorem Ext.toStore {l : List Addr} (a : Ext m0 H0 (m1.hidAs m0.hid) H1) (hp : H0 p = none) : Ext m0 H0 ((m1.hidAs m0.hid).snoc p) H1 where
  len := by
    have := a.len
    simp only [Mp.snoc, List.length_append, List.length_cons, List.length_nil]
    omega
  old := fun n x hn h => by
    have h : ((m1.hidAs m0.hid).sl ++ [some p])[n]? = _ := h
    rw [List.getElem?_append_left (Nat.lt_of_lt_of_le hn a.len)] at h
    exact a.old n x hn h
  new := fun n x hn h => by
    rcases get_snoc h with h | ⟨_, h⟩
    · exact a.new n x hn h
    · cases h; exact .none hp
  keep := a.keep
  there := a.there
  hid := rfl
  hidk := a.hidk
theorem SR.toStore {l : List Addr} {xs : List V} {ds : List D} (sr : SR G m S H) (hh : m.hid = p :: l) (hl : p ∉ l) (h : H p = some (.lst xs)) (r : RepAll G m H xs ds) : SR G ((m.hidAs l).snoc p) (S ++ [.lst ds]) H := by
  have np := (sr.hidt p (by rw [hh]; exact List.mem_cons_self)).2
  have e0 : Ext0 m H ((m.hidAs l).snoc p) H := by
    refine ⟨by simp [Mp.snoc, Mp.hidAs], fun n a hn q => ?_, fun _ _ h _ _ => h, fun b o hb n _ q => n ?_⟩
    · have q : (m.sl ++ [some p])[n]? = _ := q
      rw [List.getElem?_append_left hn] at q; exact q
    · rcases q with ⟨i, q⟩ | q
      · rcases get_snoc q with q | ⟨_, q⟩
        · exact .inl ⟨i, q⟩
        · cases q; exact .inr (by rw [hh]; exact List.mem_cons_self)
      · exact .inr (by rw [hh]; exact List.mem_cons_of_mem _ q)
  refine ⟨by simp [sr.len, Mp.snoc, Mp.hidAs], fun i j a h1 h2 => ?_, fun n a o h1 h2 => ?_, sr.tabs, fun n q => ?_, fun a ha => ⟨(sr.hidt a (by rw [hh]; exact List.mem_cons_of_mem _ ha)).1, fun n q => ?_⟩⟩
  · rcases get_snoc h1 with h1 | ⟨e1, h1⟩ <;> rcases get_snoc h2 with h2 | ⟨e2, h2⟩
    · exact sr.inj i j a h1 h2
    · cases h2; exact absurd h1 (np i)
    · cases h1; exact absurd h2 (np j)
    · omega
  · rcases get_snoc h1 with h1 | ⟨e1, h1⟩
    · have h1 : m.sl[n]? = _ := h1
      have hl' : n < S.length := by rw [sr.len]; exact (List.getElem?_eq_some_iff.mp h1).1
      rw [List.getElem?_append_left hl'] at h2
      have z := sr.at_ n a o h1 h2
      cases o with
      | dead => exact z.elim
      | lst es => obtain ⟨ys, h, q⟩ := z; exact ⟨ys, h, q.mono0 sr e0⟩
      | dct kvs => obtain ⟨ys, h, q⟩ := z; exact ⟨ys, h, q.mono0 sr e0⟩
    · cases h1
      have e1 : n = m.sl.length := e1
      rw [e1, ← sr.len, List.getElem?_append_right (Nat.le_refl _)] at h2
      simp at h2
      subst h2
      exact ⟨xs, h, r.mono0 sr e0⟩
  · rcases get_snoc q with q | ⟨_, q⟩
    · have q : m.sl[n]? = _ := q
      have hl' : n < S.length := by rw [sr.len]; exact (List.getElem?_eq_some_iff.mp q).1
      rw [List.getElem?_append_left hl']
      exact sr.dead n q
    · cases q
  · rcases get_snoc q with q | ⟨_, q⟩
    · exact (sr.hidt a (by rw [hh]; exact List.mem_cons_of_mem _ ha)).2 n q
    · cases q; exact hl ha
end
end
end Dx

set_option Elab.async false
set_option linter.all false
set_option maxRecDepth 100000
set_option maxHeartbeats 4000000
/-! DX, part 2: readings over plain data; operators. -/
namespace Dx
open PySem PySem.Spec PyProof.Rows L2

abbrev QX := Ex → Store → Prop
abbrev FG (β : Type) := Env → Store → (β → Store → Prop) → QX → Prop
abbrev F := FG D
def bindF {β γ : Type} (f : FG β) (g : β → FG γ) : FG γ := fun τ S Q E => f τ S (fun x S1 => g x τ S1 Q E) E
def retF {β : Type} (x : β) : FG β := fun _ S Q _ => Q x S
/-- a partial function's answer -/
def optF {β : Type} (o : Store → Option β) : FG β := fun _ S Q _ => match o S with
  | some d => Q d S
  | none => False

/-- the fields of an exception -/
def FldsR (G : Gr) (m : Mp) (H : Hp) : List (Str × V) → List (Str × D) → Prop
  | [], [] => True
  | (x, v) :: r, (y, d) :: s => x = y ∧ Rep G m H v d ∧ FldsR G m H r s
  | _, _ => False
structure RepX (G : Gr) (m : Mp) (H : Hp) (cls : Value) (dd : Option Addr) (ex : Ex) : Prop where
  cls : ∃ C, G.mg ex.cls = some (.ref C) ∧ cls = .ref C
  fs : ex.fs = [] ∨ ∃ da fs, dd = some da ∧ H da = some (.xd fs) ∧ FldsR G m H fs ex.fs

section
variable (G : Gr)
abbrev Rl (α β : Type) := Mp → Hp → α → β → Prop
def PostG {α β : Type} (ρ : Rl α β) (m : Mp) (H : Hp) (QD : β → Store → Prop) (Q : α → Hp → Prop) : Prop :=
  ∀ (m' : Mp) (S' : Store) (H' : Hp) (v : α) (d : β), Ext m H m' H' → SR G m' S' H' → ρ m' H' v d → QD d S' → Q v H'
def PostX (m : Mp) (H : Hp) (QE : QX) (σ : L2.St) (W : WX) : Prop :=
  ∀ (m' : Mp) (S' : Store) (H' : Hp) (cls : Value) (dd : Option Addr) (ex : Ex), Ext m H m' H' → SR G m' S' H' → RepX G m' H' cls dd ex → QE ex S' → W cls dd σ H'
def At {α β : Type} (ρ : Rl α β) (W : WX) (f : FG β) (τ : Env) (m : Mp) (S : Store) (σ : L2.St) (H : Hp) (Q : α → Hp → Prop) : Prop :=
  ∃ QD QE, SR G m S H ∧ EnvR G m H σ τ ∧ f τ S QD QE ∧ PostG G ρ m H QD Q ∧ PostX G m H QE σ W
abbrev rV : Rl V D := fun m H v d => Rep G m H v d
abbrev rB : Rl Bool Bool := fun _ _ v d => v = d
abbrev rA : Rl (List V) (List D) := fun m H v d => RepAll G m H v d
abbrev rO : Rl (Option Int) (Option Int) := fun _ _ v d => v = d
def tE (W : WX) (f : F) : TE := fun σ H Q => ∃ τ m S, At G (rV G) W f τ m S σ H Q
def tT (W : WX) (f : FG Bool) : TT := fun σ H Q => ∃ τ m S, At G rB W f τ m S σ H Q
def tA (W : WX) (f : FG (List D)) : TA := fun σ H Q => ∃ τ m S, At G (rA G) W f τ m S σ H Q
def tO (W : WX) (f : FG (Option Int)) : TO := fun σ H Q => ∃ τ m S, At G rO W f τ m S σ H Q
end

section
variable {G : Gr} {W : WX} {α β γ δ : Type} {τ : Env} {m m' : Mp} {S S' : Store} {σ : L2.St} {H H' : Hp}
theorem PostG.mono {ρ : Rl α β} {QD : β → Store → Prop} {Q : α → Hp → Prop} (p : PostG G ρ m H QD Q) (e : Ext m H m' H') : PostG G ρ m' H' QD Q := fun m2 S2 H2 v d e2 sr r q => p m2 S2 H2 v d (e.trans e2) sr r q
theorem PostX.mono {QE : QX} (p : PostX G m H QE σ W) (e : Ext m H m' H') : PostX G m' H' QE σ W := fun m2 S2 H2 c dd ex e2 sr r q => p m2 S2 H2 c dd ex (e.trans e2) sr r q
theorem At.sr {ρ : Rl α β} {f : FG β} {Q : α → Hp → Prop} (h : At G ρ W f τ m S σ H Q) : SR G m S H := let ⟨_, _, s, _⟩ := h; s
theorem At.er {ρ : Rl α β} {f : FG β} {Q : α → Hp → Prop} (h : At G ρ W f τ m S σ H Q) : EnvR G m H σ τ := let ⟨_, _, _, s, _⟩ := h; s
/-- one thing, then another -/
theorem At.seq {ρ : Rl α β} {ρ' : Rl γ δ} {f : FG β} {g : β → FG δ} {Q : γ → Hp → Prop} {R : α → Hp → Prop} (h : At G ρ' W (bindF f g) τ m S σ H Q)
    (k : ∀ (m1 : Mp) (S1 : Store) (H1 : Hp) (v : α) (d : β), Ext m H m1 H1 → SR G m1 S1 H1 → ρ m1 H1 v d → At G ρ' W (g d) τ m1 S1 σ H1 Q → R v H1) : At G ρ W f τ m S σ H R := by
  obtain ⟨QD, QE, sr, er, hf, p, px⟩ := h
  refine ⟨fun x S1 => g x τ S1 QD QE, QE, sr, er, hf, fun m1 S1 H1 v d e sr1 r q => ?_, px⟩
  exact k m1 S1 H1 v d e sr1 r ⟨QD, QE, sr1, er.mono sr e, q, p.mono e, px.mono e⟩
/-- the answer is there -/
theorem At.fin {ρ : Rl α β} {o : Store → Option β} {Q : α → Hp → Prop} (h : At G ρ W (optF o) τ m S σ H Q) :
    ∃ d, o S = some d ∧ ∀ (m1 : Mp) (H1 : Hp) (v : α), Ext m H m1 H1 → SR G m1 S H1 → ρ m1 H1 v d → Q v H1 := by
  obtain ⟨QD, QE, sr, er, hf, p, px⟩ := h
  unfold optF at hf
  cases q : o S with
  | none => rw [q] at hf; exact hf.elim
  | some d => rw [q] at hf; exact ⟨d, rfl, fun m1 H1 v e sr1 r => p m1 S H1 v d e sr1 r hf⟩
/-- an answer, then more -/
theorem At.opt {ρ : Rl γ δ} {o : Store → Option β} {g : β → FG δ} {Q : γ → Hp → Prop} (h : At G ρ W (bindF (optF o) g) τ m S σ H Q) : ∃ d, o S = some d ∧ At G ρ W (g d) τ m S σ H Q := by
  obtain ⟨QD, QE, sr, er, hf, p, px⟩ := h
  unfold bindF optF at hf
  cases q : o S with
  | none => rw [q] at hf; exact hf.elim
  | some d => rw [q] at hf; exact ⟨d, rfl, QD, QE, sr, er, hf, p, px⟩
theorem At.ret {ρ : Rl α β} {d : β} {Q : α → Hp → Prop} (h : At G ρ W (retF d) τ m S σ H Q) : ∀ (m1 : Mp) (H1 : Hp) (v : α), Ext m H m1 H1 → SR G m1 S H1 → ρ m1 H1 v d → Q v H1 := by
  obtain ⟨QD, QE, sr, er, hf, p, px⟩ := h
  exact fun m1 H1 v e sr1 r => p m1 S H1 v d e sr1 r hf
/-- a weaker reading -/
theorem PE.imp {X : Cx} {e : Expr} {t t' : TE} (h : PE X e t) (k : ∀ σ H Q, t' σ H Q → t σ H Q) : PE X e t' := ⟨fun pins s σ H Q I q => h.run pins s σ H Q I (k σ H Q q)⟩
theorem PT.imp {X : Cx} {e : Expr} {t t' : TT} (h : PT X e t) (k : ∀ σ H Q, t' σ H Q → t σ H Q) : PT X e t' := ⟨fun pins s σ H Q I q => h.run pins s σ H Q I (k σ H Q q)⟩
theorem PW.imp {X : Cx} {e : Expr} {t t' : TT} (h : PW X e t) (k : ∀ σ H Q, t' σ H Q → t σ H Q) : PW X e t' := ⟨fun wh pins s σ H Q I q => h.run wh pins s σ H Q I (k σ H Q q)⟩
theorem PA.imp {X : Cx} {e : List Expr} {t t' : TA} (h : PA X e t) (k : ∀ σ H Q, t' σ H Q → t σ H Q) : PA X e t' := ⟨fun pos pins s σ H Q I q => h.run pos pins s σ H Q I (k σ H Q q)⟩
theorem PS.imp {X : Cx} {e : Stmt} {t t' : TS} (h : PS X e t) (k : ∀ D σ H, t' D σ H → t D σ H) : PS X e t' := ⟨fun pins s σ H D I q => h.run pins s σ H D I (k D σ H q)⟩
theorem PSs.imp {X : Cx} {e : List Stmt} {t t' : TS} (h : PSs X e t) (k : ∀ D σ H, t' D σ H → t D σ H) : PSs X e t' := ⟨fun pins s σ H D I q => h.run pins s σ H D I (k D σ H q)⟩
end

/-! ### atoms -/
def varF (i : Nat) : F := fun τ S Q _ => match τ[i]? with
  | some (some d) => Q d S
  | _ => False
section
variable {G : Gr} {X : Cx} {W : WX}
theorem e_var {i : Nat} {x : Str} {pos : Pos} (hN : X.N[i]? = some x) (hv : Vis X.env.scope x) (hd : (x == ("__debug__" : Str)) = false) (hcd : (x == ("__classdict__" : Str)) = false) : PE X (.Name x pos) (tE G W (varF i)) :=
  PE.imp (pe_var hN hv hd hcd) fun σ H Q ⟨τ, m, S, QD, QE, sr, er, hf, p, px⟩ => by
    unfold varF at hf
    split at hf
    · rename_i d hd
      obtain ⟨v, h1, h2⟩ := er.at_ i d hd
      exact ⟨v, h1, p m S H v d (Ext.refl _ _) sr h2 hf⟩
    · exact hf.elim
theorem e_const {e : Expr} {v : V} {d : D} (h : PE X e (tC v)) (r : ∀ m H, Rep G m H v d) : PE X e (tE G W (retF d)) :=
  PE.imp h fun σ H Q ⟨τ, m, S, h⟩ => h.ret m H v (Ext.refl _ _) h.sr (r m H)
end

/-! ### operators on plain data -/
def getS (S : Store) : D → D
  | .obj n => match S[n]? with
    | some (.lst ds) => .lst ds
    | _ => .obj n
  | d => d
/-- a bool counts as a number -/
def numD : D → Option Int
  | .int i => some i
  | .bl b => some (if b then 1 else 0)
  | _ => none

/-- by values: what an operator makes -/
def OpF (G : Gr) (X : Cx) (f : Value → Value → Sem Value) (g : D → D → F) : Prop :=
  ∃ r, OpR X f r ∧ ∀ (W : WX) (τ : Env) (m : Mp) (S : Store) (σ : L2.St) (H : Hp) (Q : VK) (v w : V) (x y : D), Rep G m H v x → Rep G m H w y → At G (rV G) W (g x y) τ m S σ H Q → r v w H Q
abbrev OpD (G : Gr) (X : Cx) (f : Value → Value → Sem Value) (g : D → D → Store → Option D) : Prop := OpF G X f (fun x y => optF (g x y))
theorem e_bin {G : Gr} {X : Cx} {W : WX} {a b : Expr} {op : Operator} {pos : Pos} {fa fb : F} {g : D → D → F} (ho : OpF G X (binaryOp op) g) (ha : PE X a (tE G W fa)) (hb : PE X b (tE G W fb)) :
    PE X (.BinOp a op b pos) (tE G W (bindF fa fun x => bindF fb fun y => g x y)) := by
  obtain ⟨r, hr, k⟩ := ho
  refine PE.imp (pe_op hr ha hb) fun σ H Q ⟨τ, m, S, h⟩ => ?_
  refine ⟨τ, m, S, h.seq fun m1 S1 H1 v d e1 sr1 r1 h1 => ⟨τ, m1, S1, h1.seq fun m2 S2 H2 w d' e2 sr2 r2 h2 => ?_⟩⟩
  exact k W τ m2 S2 σ H2 Q v w d d' (r1.mono sr1 e2) r2 h2
theorem e_cmp {G : Gr} {X : Cx} {W : WX} {a b : Expr} {op : CmpOp} {pos : Pos} {fa fb : F} {g : D → D → F} (ho : OpF G X (compareOp op) g) (ha : PE X a (tE G W fa)) (hb : PE X b (tE G W fb)) (hm : behindInMarks op b = false) :
    PE X (.Compare a [op] [b] pos) (tE G W (bindF fa fun x => bindF fb fun y => g x y)) := by
  obtain ⟨r, hr, k⟩ := ho
  refine PE.imp (pe_cmpR hr ha hb hm) fun σ H Q ⟨τ, m, S, h⟩ => ?_
  refine ⟨τ, m, S, h.seq fun m1 S1 H1 v d e1 sr1 r1 h1 => ⟨τ, m1, S1, h1.seq fun m2 S2 H2 w d' e2 sr2 r2 h2 => ?_⟩⟩
  exact k W τ m2 S2 σ H2 Q v w d d' (r1.mono sr1 e2) r2 h2
/-- a list that is made: a value, or an object of the store -/
def newL (mu : Bool) (ds : List D) : F := fun _ S Q _ => if mu = true then Q (.obj S.length) (S ++ [.lst ds]) else Q (.lst ds) S
theorem At.newL {G : Gr} {W : WX} {mu : Bool} {ds : List D} {τ : Env} {m : Mp} {S : Store} {σ : L2.St} {H : Hp} {Q : VK} (h : At G (rV G) W (newL mu ds) τ m S σ H Q) {p : Addr} (hp : H p = none) {xs : List V} (r : RepAll G m H xs ds) : Q (.ref p) (upd H p (.lst xs)) := by
  obtain ⟨QD, QE, sr, er, hf, k, px⟩ := h
  unfold Dx.newL at hf
  cases mu with
  | true =>
    rw [if_pos rfl] at hf
    rw [sr.len] at hf
    exact k (m.snoc p) (S ++ [.lst ds]) _ (.ref p) (.obj m.sl.length) (Ext.obj sr hp) (sr.obj hp r) rep_obj hf
  | false =>
    rw [if_neg Bool.false_ne_true] at hf
    exact k m S _ (.ref p) (.lst ds) (Ext.upd sr hp) (sr.upd hp) (.lst (.inl upd_same) (sr.notNone hp) (r.mono sr (Ext.upd sr hp))) hf
theorem At.newT {G : Gr} {W : WX} {ds : List D} {τ : Env} {m : Mp} {S : Store} {σ : L2.St} {H : Hp} {Q : VK} (h : At G (rV G) W (retF (.tup ds)) τ m S σ H Q) {p : Addr} (hp : H p = none) {xs : List V} (r : RepAll G m H xs ds) : Q (.ref p) (upd H p (.tup xs)) :=
  h.ret m _ _ (Ext.upd h.sr hp) (h.sr.upd hp) (.tup (.inl (.inl upd_same)) (r.mono h.sr (Ext.upd h.sr hp)))

/-! ints -/
def o2I (C : Int → Int → Bool) (f : Int → Int → D) : D → D → Store → Option D := fun x y _ => match x, y with
  | .int i, .int j => if C i j = true then some (f i j) else none
  | _, _ => none
theorem opd_int {G : Gr} {X : Cx} {f : Value → Value → Sem Value} {P : Int → Int → Prop} {g : Int → Int → V} {C : Int → Int → Bool} {gd : Int → Int → D} (h : OpR X f (rI P g)) (hC : ∀ i j, C i j = true → P i j) (hg : ∀ i j m H, Rep G m H (g i j) (gd i j)) : OpD G X f (o2I C gd) := by
  refine ⟨_, h, fun W τ m S σ H Q v w x y rv rw hA => ?_⟩
  obtain ⟨d, hd, k⟩ := hA.fin
  unfold o2I at hd
  split at hd
  · split at hd
    · rename_i i j hc
      cases hd
      cases rv
      cases rw
      exact ⟨_, _, rfl, rfl, hC _ _ hc, k m H _ (Ext.refl _ _) hA.sr (hg _ _ _ _)⟩
    · cases hd
  · cases hd
theorem opd_int0 {G : Gr} {X : Cx} {f : Value → Value → Sem Value} {g : Int → Int → V} {gd : Int → Int → D} (h : OpR X f (rI0 g)) (hg : ∀ i j m H, Rep G m H (g i j) (gd i j)) : OpD G X f (o2I (fun _ _ => true) gd) := by
  refine ⟨_, h, fun W τ m S σ H Q v w x y rv rw hA => ?_⟩
  obtain ⟨d, hd, k⟩ := hA.fin
  unfold o2I at hd
  split at hd
  · rw [if_pos rfl] at hd
    cases hd
    cases rv
    cases rw
    exact ⟨_, _, rfl, rfl, k m H _ (Ext.refl _ _) hA.sr (hg _ _ _ _)⟩
  · cases hd
def cMul (i j : Int) : Bool := decide (i.natAbs.log2 + j.natAbs.log2 < 1000000) || decide (-(2 ^ 64) < i ∧ i < 2 ^ 64) || decide (-(2 ^ 64) < j ∧ j < 2 ^ 64)
def cDiv (_ j : Int) : Bool := !decide (j = 0) && decide (j.natAbs.log2 < 9000)
def cPow (i j : Int) : Bool := decide (0 ≤ j) && decide (j ≤ 1000000) && decide (i.natAbs < 2 ^ 64)
section
variable {G : Gr} {X : Cx}
theorem opd_add : OpD G X (binaryOp .Add) (o2I (fun _ _ => true) fun i j => .int (i + j)) := opd_int0 op_add fun _ _ _ _ => .int _
theorem opd_sub : OpD G X (binaryOp .Sub) (o2I (fun _ _ => true) fun i j => .int (i - j)) := opd_int0 op_sub fun _ _ _ _ => .int _
theorem op_mulA : OpR X (binaryOp .Mult) (rI (fun i j => cMul i j = true) fun i j => .int (i * j)) := opI fun i j _ _ _ _ _ hc q => mul_int q (by
  unfold cMul at hc
  simp only [Bool.or_eq_true, decide_eq_true_eq] at hc
  rcases hc with (h | h) | h
  · exact CMulW.ok h
  · exact CMul.ok (.inl h)
  · exact CMul.ok (.inr h))
theorem opd_mul : OpD G X (binaryOp .Mult) (o2I cMul fun i j => .int (i * j)) := opd_int op_mulA (fun _ _ h => h) fun _ _ _ _ => .int _
theorem op_fdivA : OpR X (binaryOp .FloorDiv) (rI (fun i j => cDiv i j = true) fun i j => .int (i.fdiv j)) := opI fun i j _ _ _ _ _ hc q => by
  unfold cDiv at hc
  simp only [Bool.and_eq_true, Bool.not_eq_true', decide_eq_true_eq, decide_eq_false_iff_not] at hc
  exact floordiv_int hc.1 q (.inl (PyProof.noPylong_of_log2 hc.2))
theorem opd_fdiv : OpD G X (binaryOp .FloorDiv) (o2I cDiv fun i j => .int (i.fdiv j)) := opd_int op_fdivA (fun i j h => h) fun _ _ _ _ => .int _
theorem opd_mod : OpD G X (binaryOp .Mod) (o2I (fun _ j => !decide (j = 0)) fun i j => .int (i.fmod j)) := opd_int op_modN (fun i j h => by simpa using h) fun _ _ _ _ => .int _
theorem opd_pow : OpD G X (binaryOp .Pow) (o2I cPow fun i j => .int (i ^ j.toNat)) := opd_int op_pow (fun i j h => by
  unfold cPow at h
  simp only [Bool.and_eq_true, decide_eq_true_eq] at h
  exact ⟨h.1.1, h.1.2, h.2⟩) fun _ _ _ _ => .int _
theorem opd_shl : OpD G X (binaryOp .LShift) (o2I cPow fun i j => .int (i * 2 ^ j.toNat)) := opd_int op_shl (fun i j h => by
  unfold cPow at h
  simp only [Bool.and_eq_true, decide_eq_true_eq] at h
  exact ⟨h.1.1, h.1.2, h.2⟩) fun _ _ _ _ => .int _
theorem opd_shr : OpD G X (binaryOp .RShift) (o2I (fun _ j => decide (0 ≤ j)) fun i j => .int (i / 2 ^ j.toNat)) := opd_int op_shr (fun i j h => by simpa using h) fun _ _ _ _ => .int _
theorem opd_lt : OpD G X (compareOp .Lt) (o2I (fun _ _ => true) fun i j => .bl (decide (i < j))) := opd_int0 op_lt fun _ _ _ _ => .bl _
theorem opd_le : OpD G X (compareOp .LtE) (o2I (fun _ _ => true) fun i j => .bl (decide (i ≤ j))) := opd_int0 op_le fun _ _ _ _ => .bl _
theorem opd_gt : OpD G X (compareOp .Gt) (o2I (fun _ _ => true) fun i j => .bl (decide (j < i))) := opd_int0 op_gt fun _ _ _ _ => .bl _
theorem opd_ge : OpD G X (compareOp .GtE) (o2I (fun _ _ => true) fun i j => .bl (decide (j ≤ i))) := opd_int0 op_ge fun _ _ _ _ => .bl _
end
end Dx

set_option Elab.async false
set_option linter.all false
set_option maxRecDepth 100000
set_option maxHeartbeats 4000000
/-! DX, part 3: ==, is, in, +, * on plain data; places and slices. -/
namespace Dx
open PySem PySem.Spec PyProof.Rows L2

/-! ### plain data as the library's data -/
mutual
def toPy : D → Option PyData
  | .non => some .none
  | .bl b => some (.bool b)
  | .int i => some (.int i)
  | .str x => if PyData.canLay0 (.str x) = true then some (.str x) else none
  | .tup ds => (toPys ds).map .tuple
  | .lst ds => (toPys ds).map .list
  | .obj _ | .ty _ | .gl _ | .exv _ => none
def toPys : List D → Option (List PyData)
  | [] => some []
  | d :: ds => (toPy d).bind fun p => (toPys ds).map fun ps => p :: ps
end
mutual
/-- == -/
def eqD : D → D → Bool
  | .non, .non => true
  | .bl a, .bl b => a == b
  | .bl a, .int j => (if a then 1 else 0) == j
  | .int i, .bl b => i == (if b then 1 else 0)
  | .int i, .int j => i == j
  | .str x, .str y => x == y
  | .tup xs, .tup ys => eqDs xs ys
  | .lst xs, .lst ys => eqDs xs ys
  | _, _ => false
def eqDs : List D → List D → Bool
  | [], [] => true
  | x :: xs, y :: ys => eqD x y && eqDs xs ys
  | _, _ => false
end
mutual
def depD : D → Nat
  | .tup ds => depDs ds + 1
  | .lst ds => depDs ds + 1
  | _ => 0
def depDs : List D → Nat
  | [] => 0
  | d :: ds => max (depD d) (depDs ds)
end
mutual
/-- None, bools, ints, texts, tuples and lists of such -/
def datD : D → Bool
  | .non | .bl _ | .int _ => true
  | .str x => PyData.canLay0 (.str x)
  | .tup ds | .lst ds => datDs ds
  | .obj _ | .ty _ | .gl _ | .exv _ => false
def datDs : List D → Bool
  | [] => true
  | d :: ds => datD d && datDs ds
end
mutual
theorem toPy_some : ∀ (d : D), datD d = true → ∃ p, toPy d = some p ∧ p.canLay0 = true ∧ p.depth = depD d
  | .non, _ => ⟨_, rfl, rfl, rfl⟩
  | .bl _, _ => ⟨_, rfl, rfl, rfl⟩
  | .int _, _ => ⟨_, rfl, rfl, rfl⟩
  | .str x, h => by
    have h' : PyData.canLay0 (.str x) = true := by simpa [datD] using h
    exact ⟨.str x, by unfold toPy; rw [if_pos h'], h', rfl⟩
  | .tup ds, h => by
    obtain ⟨ps, h1, h2, h3⟩ := toPys_some ds (by simpa [datD] using h)
    exact ⟨.tuple ps, by simp [toPy, h1], by simpa [PyData.canLay0] using h2, by simp [PyData.depth, depD, h3]⟩
  | .lst ds, h => by
    obtain ⟨ps, h1, h2, h3⟩ := toPys_some ds (by simpa [datD] using h)
    exact ⟨.list ps, by simp [toPy, h1], by simpa [PyData.canLay0] using h2, by simp [PyData.depth, depD, h3]⟩
  | .obj _, h => by simp [datD] at h
  | .ty _, h => by simp [datD] at h
  | .gl _, h => by simp [datD] at h
  | .exv _, h => by simp [datD] at h
theorem toPys_some : ∀ (ds : List D), datDs ds = true → ∃ ps, toPys ds = some ps ∧ PyData.canLayAll0 ps = true ∧ PyData.depthAll ps = depDs ds
  | [], _ => ⟨[], rfl, rfl, rfl⟩
  | d :: ds, h => by
    have h' : datD d = true ∧ datDs ds = true := by simpa [datDs] using h
    obtain ⟨p, a1, a2, a3⟩ := toPy_some d h'.1
    obtain ⟨ps, b1, b2, b3⟩ := toPys_some ds h'.2
    exact ⟨p :: ps, by simp [toPys, a1, b1], by simp [PyData.canLayAll0, a2, b2], by simp [PyData.depthAll, depDs, a3, b3]⟩
end
theorem toPy_str {x : Str} {p : PyData} (h : toPy (.str x) = some p) : p = .str x := by
  unfold toPy at h
  split at h
  · cases h; rfl
  · cases h
theorem toPy_tup {ds : List D} {p : PyData} (h : toPy (.tup ds) = some p) : ∃ ps, toPys ds = some ps ∧ p = .tuple ps := by
  unfold toPy at h
  obtain ⟨ps, h1, h2⟩ := Option.map_eq_some_iff.mp h
  exact ⟨ps, h1, h2.symm⟩
theorem toPy_lst {ds : List D} {p : PyData} (h : toPy (.lst ds) = some p) : ∃ ps, toPys ds = some ps ∧ p = .list ps := by
  unfold toPy at h
  obtain ⟨ps, h1, h2⟩ := Option.map_eq_some_iff.mp h
  exact ⟨ps, h1, h2.symm⟩
theorem toPys_cons {d : D} {ds : List D} {ps : List PyData} (h : toPys (d :: ds) = some ps) : ∃ p qs, toPy d = some p ∧ toPys ds = some qs ∧ ps = p :: qs := by
  unfold toPys at h
  obtain ⟨p, h1, h2⟩ := Option.bind_eq_some_iff.mp h
  obtain ⟨qs, h3, h4⟩ := Option.map_eq_some_iff.mp h2
  exact ⟨p, qs, h1, h3, h4.symm⟩
mutual
theorem eqv_eqD : ∀ (a b : D) (p q : PyData), toPy a = some p → toPy b = some q → PyData.eqv p q = eqD a b
  | a, b, p, q, ha, hb => by
    cases a with
    | obj _ => cases ha
    | ty _ => cases ha
    | gl _ => cases ha
    | exv _ => cases ha
    | non =>
      cases ha
      cases b with
      | obj _ => cases hb
      | ty _ => cases hb
      | gl _ => cases hb
      | exv _ => cases hb
      | non => cases hb; rfl
      | bl _ => cases hb; rfl
      | int _ => cases hb; rfl
      | str _ => cases toPy_str hb; rfl
      | tup _ => obtain ⟨_, _, rfl⟩ := toPy_tup hb; rfl
      | lst _ => obtain ⟨_, _, rfl⟩ := toPy_lst hb; rfl
    | bl x =>
      cases ha
      cases b with
      | obj _ => cases hb
      | ty _ => cases hb
      | gl _ => cases hb
      | exv _ => cases hb
      | non => cases hb; rfl
      | bl _ => cases hb; rfl
      | int _ => cases hb; rfl
      | str _ => cases toPy_str hb; rfl
      | tup _ => obtain ⟨_, _, rfl⟩ := toPy_tup hb; rfl
      | lst _ => obtain ⟨_, _, rfl⟩ := toPy_lst hb; rfl
    | int x =>
      cases ha
      cases b with
      | obj _ => cases hb
      | ty _ => cases hb
      | gl _ => cases hb
      | exv _ => cases hb
      | non => cases hb; rfl
      | bl _ => cases hb; rfl
      | int _ => cases hb; rfl
      | str _ => cases toPy_str hb; rfl
      | tup _ => obtain ⟨_, _, rfl⟩ := toPy_tup hb; rfl
      | lst _ => obtain ⟨_, _, rfl⟩ := toPy_lst hb; rfl
    | str x =>
      cases toPy_str ha
      cases b with
      | obj _ => cases hb
      | ty _ => cases hb
      | gl _ => cases hb
      | exv _ => cases hb
      | non => cases hb; rfl
      | bl _ => cases hb; rfl
      | int _ => cases hb; rfl
      | str _ => cases toPy_str hb; simp [PyData.eqv, eqD]
      | tup _ => obtain ⟨_, _, rfl⟩ := toPy_tup hb; rfl
      | lst _ => obtain ⟨_, _, rfl⟩ := toPy_lst hb; rfl
    | tup xs =>
      obtain ⟨ps, h1, rfl⟩ := toPy_tup ha
      cases b with
      | obj _ => cases hb
      | ty _ => cases hb
      | gl _ => cases hb
      | exv _ => cases hb
      | non => cases hb; rfl
      | bl _ => cases hb; rfl
      | int _ => cases hb; rfl
      | str _ => cases toPy_str hb; rfl
      | tup ys => obtain ⟨qs, h2, rfl⟩ := toPy_tup hb; simp only [PyData.eqv, eqD]; exact eqv_eqDs xs ys ps qs h1 h2
      | lst _ => obtain ⟨_, _, rfl⟩ := toPy_lst hb; rfl
    | lst xs =>
      obtain ⟨ps, h1, rfl⟩ := toPy_lst ha
      cases b with
      | obj _ => cases hb
      | ty _ => cases hb
      | gl _ => cases hb
      | exv _ => cases hb
      | non => cases hb; rfl
      | bl _ => cases hb; rfl
      | int _ => cases hb; rfl
      | str _ => cases toPy_str hb; rfl
      | tup _ => obtain ⟨_, _, rfl⟩ := toPy_tup hb; rfl
      | lst ys => obtain ⟨qs, h2, rfl⟩ := toPy_lst hb; simp only [PyData.eqv, eqD]; exact eqv_eqDs xs ys ps qs h1 h2
theorem eqv_eqDs : ∀ (xs ys : List D) (ps qs : List PyData), toPys xs = some ps → toPys ys = some qs → PyData.eqvAll ps qs = eqDs xs ys
  | [], [], ps, qs, ha, hb => by cases ha; cases hb; rfl
  | [], y :: ys, ps, qs, ha, hb => by cases ha; obtain ⟨_, _, _, _, rfl⟩ := toPys_cons hb; rfl
  | x :: xs, [], ps, qs, ha, hb => by cases hb; obtain ⟨_, _, _, _, rfl⟩ := toPys_cons ha; rfl
  | x :: xs, y :: ys, ps, qs, ha, hb => by
    obtain ⟨p, ps', h1, h2, rfl⟩ := toPys_cons ha
    obtain ⟨q, qs', h3, h4, rfl⟩ := toPys_cons hb
    simp only [PyData.eqvAll, eqDs, eqv_eqD x y p q h1 h3, eqv_eqDs xs ys ps' qs' h2 h4]
end

section
variable {G : Gr} {m : Mp} {S : Store} {H : Hp}
mutual
theorem Rep.dp : ∀ {v : V} {d : D} {p : PyData}, Rep G m H v d → toPy d = some p → Dp G.K H v p
  | _, _, _, .non, h => by cases h; exact .non
  | _, _, _, .bl b, h => by cases h; exact .bl b
  | _, _, _, .int i, h => by cases h; exact .int i
  | _, _, _, .str s, h => by cases toPy_str h; exact .str s
  | _, _, _, .tup h1 r, h => by obtain ⟨ps, e, rfl⟩ := toPy_tup h; exact .tup h1 (RepAll.dp r e)
  | _, _, _, .lst h1 _ r, h => by obtain ⟨ps, e, rfl⟩ := toPy_lst h; exact .lst (SqX.sq (.inl h1)) (RepAll.dp r e)
  | _, _, _, .klst h1 r, h => by obtain ⟨ps, e, rfl⟩ := toPy_lst h; exact .lst (SqX.sq (.inr h1)) (RepAll.dp r e)
  | _, _, _, .obj _ _, h => by cases h
  | _, _, _, .ty _, h => by cases h
  | _, _, _, .gl _, h => by cases h
  | _, _, _, .exv, h => by cases h
theorem RepAll.dp : ∀ {xs : List V} {ds : List D} {ps : List PyData}, RepAll G m H xs ds → toPys ds = some ps → DpAll G.K H xs ps
  | _, _, _, .nil, h => by cases h; exact .nil
  | _, _, _, .cons a r, h => by obtain ⟨p, qs, h1, h2, rfl⟩ := toPys_cons h; exact .cons (Rep.dp a h1) (RepAll.dp r h2)
end
/-- a list, also one of the store, by its items -/
theorem Rep.getL {v : V} {d : D} {ds : List D} (sr : SR G m S H) (r : Rep G m H v d) (h : getS S d = .lst ds) : ∃ a xs, v = .ref a ∧ SqX G.K H a xs ∧ RepAll G m H xs ds := by
  cases r with
  | lst h1 h2 h3 => cases h; exact ⟨_, _, rfl, .inl h1, h3⟩
  | klst h1 h3 => cases h; exact ⟨_, _, rfl, .inr h1, h3⟩
  | @obj n a h1 h2 =>
    simp only [getS] at h
    split at h
    · rename_i es hs
      cases h
      cases q : m.sl[n]? with
      | none => rw [List.getElem?_eq_none_iff] at q; omega
      | some o =>
        cases o with
        | none =>
          have z := sr.dead n q
          rw [hs] at z; cases z
        | some b =>
          have e := h2 b q
          subst e
          obtain ⟨xs, hx, rx⟩ := sr.at_ n b _ q hs
          exact ⟨b, xs, rfl, .inl (.inl hx), rx⟩
    · cases h
  | non => cases h
  | bl _ => cases h
  | int _ => cases h
  | str _ => cases h
  | tup _ _ => cases h
  | ty _ => cases h
  | gl _ => cases h
  | exv => cases h
theorem Rep.getT {v : V} {d : D} {ds : List D} (r : Rep G m H v d) (h : d = .tup ds) : ∃ a xs, v = .ref a ∧ SqT G.K H a xs ∧ RepAll G m H xs ds := by
  subst h
  cases r with
  | tup h1 h3 => exact ⟨_, _, rfl, h1, h3⟩
theorem getS_not {d : D} (h : ∀ n, d ≠ .obj n) : getS S d = d := by
  cases d <;> first | rfl | exact absurd rfl (h _)
theorem toPy_getS {d : D} {p : PyData} {v : V} (sr : SR G m S H) (r : Rep G m H v d) (h : toPy (getS S d) = some p) : Dp G.K H v p := by
  by_cases o : ∃ n, d = .obj n
  · obtain ⟨n, rfl⟩ := o
    cases q : getS S (.obj n) with
    | lst ds =>
      rw [q] at h
      obtain ⟨ps, e, rfl⟩ := toPy_lst h
      obtain ⟨a, xs, rfl, hx, rx⟩ := r.getL sr q
      exact .lst hx.sq (RepAll.dp rx e)
    | obj k => rw [q] at h; cases h
    | _ =>
      exfalso
      simp only [getS] at q
      split at q <;> cases q
  · rw [getS_not fun n e => o ⟨n, e⟩] at h
    exact r.dp h
end

/-! ### the operators -/
/-- fit to be compared -/
def cmpOk (d : D) : Bool := datD d && decide (depD d ≤ 64)
theorem cmpOk_py {d : D} (h : cmpOk d = true) : ∃ p, toPy d = some p ∧ SeqAt.shaped p = true := by
  unfold cmpOk at h
  simp only [Bool.and_eq_true, decide_eq_true_eq] at h
  obtain ⟨p, h1, h2, h3⟩ := toPy_some d h.1
  refine ⟨p, h1, ?_⟩
  unfold SeqAt.shaped
  rw [h2, h3]
  simpa using h.2
def eqO (x y : D) (S : Store) : Option D := if (cmpOk (getS S x) && cmpOk (getS S y)) = true then some (.bl (eqD (getS S x) (getS S y))) else none
def neO (x y : D) (S : Store) : Option D := if (cmpOk (getS S x) && cmpOk (getS S y)) = true then some (.bl (!eqD (getS S x) (getS S y))) else none
section
variable {G : Gr} {X : Cx}
theorem opd_eq (hK : X.K = G.K) (hu : X.A.units + 64 < cLine) : OpD G X (compareOp .Eq) eqO := by
  refine ⟨_, op_eqD hu, fun W τ m S σ H Q v w x y rv rw_ hA => ?_⟩
  obtain ⟨d, hd, k⟩ := hA.fin
  unfold eqO at hd
  split at hd
  · rename_i hc
    cases hd
    rw [Bool.and_eq_true] at hc
    obtain ⟨p, p1, p2⟩ := cmpOk_py hc.1
    obtain ⟨q, q1, q2⟩ := cmpOk_py hc.2
    rw [hK]
    exact ⟨p, q, toPy_getS hA.sr rv p1, toPy_getS hA.sr rw_ q1, p2, q2, k m H _ (Ext.refl _ _) hA.sr (by rw [eqv_eqD _ _ _ _ p1 q1]; exact .bl _)⟩
  · cases hd
theorem opd_ne (hK : X.K = G.K) (hu : X.A.units + 64 < cLine) : OpD G X (compareOp .NotEq) neO := by
  refine ⟨_, op_neD hu, fun W τ m S σ H Q v w x y rv rw_ hA => ?_⟩
  obtain ⟨d, hd, k⟩ := hA.fin
  unfold neO at hd
  split at hd
  · rename_i hc
    cases hd
    rw [Bool.and_eq_true] at hc
    obtain ⟨p, p1, p2⟩ := cmpOk_py hc.1
    obtain ⟨q, q1, q2⟩ := cmpOk_py hc.2
    rw [hK]
    exact ⟨p, q, toPy_getS hA.sr rv p1, toPy_getS hA.sr rw_ q1, p2, q2, k m H _ (Ext.refl _ _) hA.sr (by rw [eqv_eqD _ _ _ _ p1 q1]; exact .bl _)⟩
  · cases hd

/-! is None, is True -/
def isO (neg : Bool) (x y : D) (_ : Store) : Option D := match y, x with
  | .non, .non => some (.bl (!neg))
  | .non, _ => some (.bl neg)
  | .bl b, .bl a => some (.bl ((a == b) != neg))
  | .bl _, _ => some (.bl neg)
  | _, _ => none
theorem opR_isB : OpR X (compareOp .Is) (fun x y H Q => (y = .non ∧ Q (.bl (decide (x = .non))) H) ∨ ∃ b, y = .bl b ∧ Q (.bl (decide (x = .bl b))) H) := by
  refine op_isN.or ?_
  intro pins s σ H x y v u Q I rx ry h
  obtain ⟨b, rfl, q⟩ := h
  cases (show u = Value.bool b from ry)
  cases x with
  | bl a =>
    cases (show v = Value.bool a from rx)
    by_cases e : a = b
    · subst e
      exact wpAny_is_self rfl ⟨.bl true, H, I, rfl, by simpa using q⟩
    · exact wpAny_is_other rfl (fun z => e (Value.bool.inj z)) ⟨.bl false, H, I, rfl, by simpa [e] using q⟩
  | non => cases rx; exact wpAny_is_other rfl (fun z => nomatch z) ⟨.bl false, H, I, rfl, by simpa using q⟩
  | int i => obtain ⟨t, rfl⟩ := rx; exact wpAny_is_other rfl (fun z => nomatch z) ⟨.bl false, H, I, rfl, by simpa using q⟩
  | str i => obtain ⟨t, rfl⟩ := rx; exact wpAny_is_other rfl (fun z => nomatch z) ⟨.bl false, H, I, rfl, by simpa using q⟩
  | byt i => obtain ⟨t, rfl⟩ := rx; exact wpAny_is_other rfl (fun z => nomatch z) ⟨.bl false, H, I, rfl, by simpa using q⟩
  | flt i => obtain ⟨t, rfl⟩ := rx; exact wpAny_is_other rfl (fun z => nomatch z) ⟨.bl false, H, I, rfl, by simpa using q⟩
  | ref i => cases rx; exact wpAny_is_other rfl (fun z => nomatch z) ⟨.bl false, H, I, rfl, by simpa using q⟩
  | ty i => cases rx; exact wpAny_is_other rfl (fun z => nomatch z) ⟨.bl false, H, I, rfl, by simpa using q⟩
theorem opR_notB : OpR X (compareOp .IsNot) (fun x y H Q => (y = .non ∧ Q (.bl (!decide (x = .non))) H) ∨ ∃ b, y = .bl b ∧ Q (.bl (!decide (x = .bl b))) H) := by
  refine op_notN.or ?_
  intro pins s σ H x y v u Q I rx ry h
  obtain ⟨b, rfl, q⟩ := h
  cases (show u = Value.bool b from ry)
  cases x with
  | bl a =>
    cases (show v = Value.bool a from rx)
    by_cases e : a = b
    · subst e
      exact wpAny_isNot_self rfl ⟨.bl false, H, I, rfl, by simpa using q⟩
    · exact wpAny_isNot_other rfl (fun z => e (Value.bool.inj z)) ⟨.bl true, H, I, rfl, by simpa [e] using q⟩
  | non => cases rx; exact wpAny_isNot_other rfl (fun z => nomatch z) ⟨.bl true, H, I, rfl, by simpa using q⟩
  | int i => obtain ⟨t, rfl⟩ := rx; exact wpAny_isNot_other rfl (fun z => nomatch z) ⟨.bl true, H, I, rfl, by simpa using q⟩
  | str i => obtain ⟨t, rfl⟩ := rx; exact wpAny_isNot_other rfl (fun z => nomatch z) ⟨.bl true, H, I, rfl, by simpa using q⟩
  | byt i => obtain ⟨t, rfl⟩ := rx; exact wpAny_isNot_other rfl (fun z => nomatch z) ⟨.bl true, H, I, rfl, by simpa using q⟩
  | flt i => obtain ⟨t, rfl⟩ := rx; exact wpAny_isNot_other rfl (fun z => nomatch z) ⟨.bl true, H, I, rfl, by simpa using q⟩
  | ref i => cases rx; exact wpAny_isNot_other rfl (fun z => nomatch z) ⟨.bl true, H, I, rfl, by simpa using q⟩
  | ty i => cases rx; exact wpAny_isNot_other rfl (fun z => nomatch z) ⟨.bl true, H, I, rfl, by simpa using q⟩
theorem opd_is : OpD G X (compareOp .Is) (isO false) := by
  refine ⟨_, opR_isB, fun W τ m S σ H Q v w x y rv rw_ hA => ?_⟩
  obtain ⟨d, hd, k⟩ := hA.fin
  have fin : ∀ b, d = .bl b → Q (.bl b) H := fun b e => k m H _ (Ext.refl _ _) hA.sr (e ▸ .bl b)
  cases y with
  | non =>
    cases rw_
    refine .inl ⟨rfl, ?_⟩
    cases rv <;> cases hd <;> exact fin _ rfl
  | bl b =>
    cases rw_
    refine .inr ⟨b, rfl, ?_⟩
    cases rv <;> cases hd <;> first | exact fin _ rfl | (refine fin _ ?_; congr 1; rename_i c; cases b <;> cases c <;> rfl)
  | _ => cases x <;> cases hd
theorem opd_isnot : OpD G X (compareOp .IsNot) (isO true) := by
  refine ⟨_, opR_notB, fun W τ m S σ H Q v w x y rv rw_ hA => ?_⟩
  obtain ⟨d, hd, k⟩ := hA.fin
  have fin : ∀ b, d = .bl b → Q (.bl b) H := fun b e => k m H _ (Ext.refl _ _) hA.sr (e ▸ .bl b)
  cases y with
  | non =>
    cases rw_
    refine .inl ⟨rfl, ?_⟩
    cases rv <;> cases hd <;> exact fin _ rfl
  | bl b =>
    cases rw_
    refine .inr ⟨b, rfl, ?_⟩
    cases rv <;> cases hd <;> first | exact fin _ rfl | (refine fin _ ?_; congr 1; rename_i c; cases b <;> cases c <;> rfl)
  | _ => cases x <;> cases hd
end

/-! in, not in: lists and tuples of data -/
def seqD (S : Store) (d : D) : Option (List D) := match getS S d with
  | .tup ds => some ds
  | .lst ds => some ds
  | _ => none
def inO (neg : Bool) (x y : D) (S : Store) : Option D := match seqD S y with
  | some ds => if (cmpOk (getS S x) && cmpOk (getS S y)) = true then some (.bl ((ds.any fun z => eqD z (getS S x)) != neg)) else none
  | none => none
section
variable {G : Gr} {X : Cx}
def rInX (K : PySem.W.Frag) (neg : Bool) : R2 := fun x y H Q => ∃ d ds, Dp K H x d ∧ (Dp K H y (.list ds) ∨ Dp K H y (.tuple ds)) ∧ SeqAt.shaped d = true ∧ PyData.canLayAll0 ds = true ∧ Q (.bl ((ds.any fun z => PyData.eqv z d) != neg)) H
theorem opR_in (hu : X.A.units + 65 < cLine) : OpR X (compareOp .In) (rInX X.K false) := by
  intro pins s σ H x y v u Q I rx ry h
  obtain ⟨d, ds, hd, he, sd, se, q⟩ := h
  obtain ⟨as, r1⟩ := Dp.reads I d x v hd rx
  rcases he with he | he
  · obtain ⟨bs, r2⟩ := Dp.reads I (.list ds) y u he ry
    exact SeqAt.in_list_reads r2 r1 (by simpa [PyData.canLay0] using se) (SeqAt.canLay_of_shaped sd) (room_in_shaped sd hu) ⟨.bl _, H, I, rfl, by simpa using q⟩
  · obtain ⟨bs, r2⟩ := Dp.reads I (.tuple ds) y u he ry
    exact SeqAt.in_tuple_reads r2 r1 (by simpa [PyData.canLay0] using se) (SeqAt.canLay_of_shaped sd) (room_in_shaped sd hu) ⟨.bl _, H, I, rfl, by simpa using q⟩
theorem opR_notIn (hu : X.A.units + 65 < cLine) : OpR X (compareOp .NotIn) (rInX X.K true) := by
  intro pins s σ H x y v u Q I rx ry h
  obtain ⟨d, ds, hd, he, sd, se, q⟩ := h
  obtain ⟨as, r1⟩ := Dp.reads I d x v hd rx
  rcases he with he | he
  · obtain ⟨bs, r2⟩ := Dp.reads I (.list ds) y u he ry
    exact SeqAt.notIn_list_reads r2 r1 (by simpa [PyData.canLay0] using se) (SeqAt.canLay_of_shaped sd) (room_in_shaped sd hu) ⟨.bl _, H, I, rfl, by simpa using q⟩
  · obtain ⟨bs, r2⟩ := Dp.reads I (.tuple ds) y u he ry
    exact SeqAt.notIn_tuple_reads r2 r1 (by simpa [PyData.canLay0] using se) (SeqAt.canLay_of_shaped sd) (room_in_shaped sd hu) ⟨.bl _, H, I, rfl, by simpa using q⟩
theorem any_eqv {d : D} {p : PyData} (h : toPy d = some p) : ∀ (ds : List D) (ps : List PyData), toPys ds = some ps → (ps.any fun z => PyData.eqv z p) = ds.any fun z => eqD z d
  | [], _, e => by cases e; rfl
  | x :: xs, _, e => by
    obtain ⟨q, qs, h1, h2, rfl⟩ := toPys_cons e
    simp only [List.any_cons, eqv_eqD x d q p h1 h, any_eqv h xs qs h2]
theorem opd_in_of {neg : Bool} {op : CmpOp} (hK : X.K = G.K) (hr : OpR X (compareOp op) (rInX X.K neg)) : OpD G X (compareOp op) (inO neg) := by
  refine ⟨_, hr, fun W τ m S σ H Q v w x y rv rw_ hA => ?_⟩
  obtain ⟨d, hd, k⟩ := hA.fin
  unfold inO at hd
  split at hd
  · rename_i ds hs
    split at hd
    · rename_i hc
      cases hd
      rw [Bool.and_eq_true] at hc
      obtain ⟨p, p1, p2⟩ := cmpOk_py hc.1
      obtain ⟨q, q1, q2⟩ := cmpOk_py hc.2
      rw [hK]
      have dq := toPy_getS hA.sr rw_ q1
      unfold seqD at hs
      split at hs
      · rename_i es he
        cases hs
        rw [he] at q1
        obtain ⟨ps, e, rfl⟩ := toPy_tup q1
        exact ⟨p, ps, toPy_getS hA.sr rv p1, .inr dq, p2, by simpa [PyData.canLay0] using SeqAt.canLay_of_shaped q2, k m H _ (Ext.refl _ _) hA.sr (by rw [any_eqv p1 _ _ e]; exact .bl _)⟩
      · rename_i es he
        cases hs
        rw [he] at q1
        obtain ⟨ps, e, rfl⟩ := toPy_lst q1
        exact ⟨p, ps, toPy_getS hA.sr rv p1, .inl dq, p2, by simpa [PyData.canLay0] using SeqAt.canLay_of_shaped q2, k m H _ (Ext.refl _ _) hA.sr (by rw [any_eqv p1 _ _ e]; exact .bl _)⟩
      · cases hs
    · cases hd
  · cases hd
theorem opd_in (hK : X.K = G.K) (hu : X.A.units + 65 < cLine) : OpD G X (compareOp .In) (inO false) := opd_in_of hK (opR_in hu)
theorem opd_notIn (hK : X.K = G.K) (hu : X.A.units + 65 < cLine) : OpD G X (compareOp .NotIn) (inO true) := opd_in_of hK (opR_notIn hu)
end
end Dx

set_option Elab.async false
set_option linter.all false
set_option maxRecDepth 100000
set_option maxHeartbeats 4000000
/-! DX, part 4: +, -, * of all kinds; places and slices. -/
namespace Dx
open PySem PySem.Spec PyProof.Rows L2

def addF (mu : Bool) (x y : D) : F := fun τ S Q E => match getS S x, getS S y with
  | .int i, .int j => Q (.int (i + j)) S
  | .str a, .str b => a.length + b.length ≤ sizeLine ∧ Q (.str (a ++ b)) S
  | .tup a, .tup b => a.length + b.length ≤ sizeLine ∧ Q (.tup (a ++ b)) S
  | .lst a, .lst b => a.length + b.length ≤ sizeLine ∧ newL mu (a ++ b) τ S Q E
  | .int i, .bl b => Q (.int (i + b2i b)) S
  | .bl a, .int j => Q (.int (b2i a + j)) S
  | .bl a, .bl b => Q (.int (b2i a + b2i b)) S
  | _, _ => False
def subF (x y : D) : F := fun _ S Q _ => match x, y with
  | .int i, .int j => Q (.int (i - j)) S
  | .int i, .bl b => Q (.int (i - b2i b)) S
  | .bl a, .int j => Q (.int (b2i a - j)) S
  | .bl a, .bl b => Q (.int (b2i a - b2i b)) S
  | _, _ => False
def mulF (mu : Bool) (x y : D) : F := fun τ S Q E => match getS S x, getS S y with
  | .int i, .int j => cMul i j = true ∧ Q (.int (i * j)) S
  | .lst a, .int k => (-(2 ^ 63) ≤ k ∧ k < 2 ^ 63 ∧ a.length * k.toNat ≤ sizeLine) ∧ newL mu (List.replicate k.toNat a).flatten τ S Q E
  | .tup a, .int k => (a ≠ [] ∧ 2 ≤ k ∧ k ≤ 1000 ∧ a.length ≤ 1000) ∧ Q (.tup (List.replicate k.toNat a).flatten) S
  | _, _ => False

section
variable {X : Cx}
theorem opR_cat : OpR X (binaryOp .Add) (fun x y H Q => ∃ l b xs zs, x = .ref l ∧ y = .ref b ∧ SqX X.K H l xs ∧ SqX X.K H b zs ∧ xs.length + zs.length ≤ sizeLine ∧ ∀ p, H p = none → Q (.ref p) (upd H p (.lst (xs ++ zs)))) := by
  intro pins s σ H x y v u Q I rx ry h
  obtain ⟨l, b, xs, zs, rfl, rfl, hH, hB, hz, q⟩ := h
  cases rx
  cases ry
  obtain ⟨z, its, n, r, hl, e⟩ := listX I hH
  obtain ⟨z2, its2, n2, r2, hl2, e2⟩ := listX I hB
  refine PySem.P.add_list e e2 ?_ (by rw [List.size_toArray, List.size_toArray]; omega)
  have ea : its.toArray ++ its2.toArray = (its ++ its2).toArray := by simp
  rw [ea]
  exact ⟨.ref _, _, I.lnew (t' := s.toks) (r.append r2) (by rw [List.length_append]; omega), rfl, q _ I.fresh⟩
theorem opR_rep : OpR X (binaryOp .Mult) (fun x y H Q => ∃ l k xs, x = .ref l ∧ y = .int k ∧ SqX X.K H l xs ∧ -(2 ^ 63) ≤ k ∧ k < 2 ^ 63 ∧ xs.length * k.toNat ≤ sizeLine ∧
  ∀ p, H p = none → Q (.ref p) (upd H p (.lst (List.replicate k.toNat xs).flatten))) := by
  intro pins s σ H x y v u Q I rx ry h
  obtain ⟨l, k, xs, rfl, rfl, hH, h1, h2, hz, q⟩ := h
  cases rx
  obtain ⟨t, rfl⟩ := ry
  obtain ⟨z, its, n, r, hl, e⟩ := listX I hH
  have hlen : its.toArray.size * k.toNat ≤ sizeLine := by rw [List.size_toArray, ← hl]; exact hz
  have hcap : ¬ its.toArray.size * k.toNat > (2 ^ 63 - 1) / 8 := by
    have : (sizeLine : Nat) ≤ (2 ^ 63 - 1) / 8 := by decide
    omega
  have hfit : ¬ (!Builtin.List.listFitsIndex k) = true := by
    rw [fitsIndex_both h1 h2]
    exact Bool.false_ne_true
  have hlong : ¬ Builtin.List.listTooLong (its.toArray.size * k.toNat) = true := by
    rw [notLongL hlen]
    exact Bool.false_ne_true
  have hnew : List.foldl (fun x1 x2 => x1 ++ x2) #[] (List.replicate (if its.toArray.isEmpty = true then 0 else k.toNat) its.toArray) = (List.replicate k.toNat its).flatten.toArray := by
    have f0 : ∀ m : Nat, List.foldl (fun x1 x2 => x1 ++ x2) #[] (List.replicate m its.toArray) = (List.replicate m its).flatten.toArray := fun m => by
      have := foldl_rep its m []
      rw [List.nil_append] at this
      exact this
    rw [f0]
    cases its with
    | nil => simp
    | cons a r' => rw [if_neg (by simp)]
  refine wpAny_binaryOp_repeat_ref (T := "list") (U := "int") (by decide) ⟨_, e, rfl⟩ (fun s' => typeIs_int s' k t) noFill_list_mul F.fills_int_mul F.slot_int_rmul repeat_list F.slot_int_index.lookup
    (call_meets F.slot_int_rmul (typeIs_int s k t) F.entry_int_rmul (F.args_int_rmul_2 _ _) (int___rmul___int_list k t l its.toArray n)
      ⟨e, rfl, ⟨_, e, rfl⟩, call_meets F.slot_list_mul ⟨_, e, rfl⟩ F.entry_list_mul (F.args_list_mul_2 _ _) (AutoListH.list___mul___list_int_3 l its.toArray n k t hfit hcap hlong) ⟨e, ?_⟩⟩)
  rw [hnew]
  exact ⟨.ref _, _, I.lnew (t' := s.toks) (r.rep k.toNat) (by rw [PyProof.Rows.lm_len_rep_flat, Nat.mul_comm]; exact hz), rfl, q _ I.fresh⟩
theorem opR_addib : OpR X (binaryOp .Add) (fun x y H Q => ∃ i k, x = .int i ∧ y = .bl k ∧ Q (.int (i + b2i k)) H) := op_add_ib
theorem opR_addbi : OpR X (binaryOp .Add) (fun x y H Q => ∃ k i, x = .bl k ∧ y = .int i ∧ Q (.int (b2i k + i)) H) := by
  intro pins s σ H x y v u Q I rx ry h
  obtain ⟨k, i, rfl, rfl, q⟩ := h
  obtain ⟨t, rfl⟩ := ry
  cases rx
  exact PySem.IntBool.add_bool_int ⟨.int (b2i k + i), H, I.tok _, ⟨_, rfl⟩, q⟩
theorem opR_addbb : OpR X (binaryOp .Add) (fun x y H Q => ∃ k i, x = .bl k ∧ y = .bl i ∧ Q (.int (b2i k + b2i i)) H) := by
  intro pins s σ H x y v u Q I rx ry h
  obtain ⟨k, i, rfl, rfl, q⟩ := h
  cases ry
  cases rx
  exact add_bool ⟨.int (b2i k + b2i i), H, I.tok _, ⟨_, rfl⟩, q⟩
theorem opR_subib : OpR X (binaryOp .Sub) (fun x y H Q => ∃ i k, x = .int i ∧ y = .bl k ∧ Q (.int (i - b2i k)) H) := by
  intro pins s σ H x y v u Q I rx ry h
  obtain ⟨k, i, rfl, rfl, q⟩ := h
  obtain ⟨t, rfl⟩ := rx
  cases ry
  exact PySem.IntBool.sub_int_bool ⟨.int (k - b2i i), H, I.tok _, ⟨_, rfl⟩, q⟩
theorem opR_subbi : OpR X (binaryOp .Sub) (fun x y H Q => ∃ k i, x = .bl k ∧ y = .int i ∧ Q (.int (b2i k - i)) H) := by
  intro pins s σ H x y v u Q I rx ry h
  obtain ⟨k, i, rfl, rfl, q⟩ := h
  obtain ⟨t, rfl⟩ := ry
  cases rx
  exact PySem.IntBool.sub_bool_int ⟨.int (b2i k - i), H, I.tok _, ⟨_, rfl⟩, q⟩
theorem opR_subbb : OpR X (binaryOp .Sub) (fun x y H Q => ∃ k i, x = .bl k ∧ y = .bl i ∧ Q (.int (b2i k - b2i i)) H) := by
  intro pins s σ H x y v u Q I rx ry h
  obtain ⟨k, i, rfl, rfl, q⟩ := h
  cases ry
  cases rx
  exact sub_bool ⟨.int (b2i k - b2i i), H, I.tok _, ⟨_, rfl⟩, q⟩
end

section
variable {G : Gr} {m : Mp} {S : Store} {H : Hp}
/-- the value behind getS -/
theorem getS_int {d : D} {i : Int} (h : getS S d = .int i) : d = .int i := by
  cases d <;> simp only [getS] at h <;> first | exact h | (split at h <;> cases h)
theorem getS_str {d : D} {i : Str} (h : getS S d = .str i) : d = .str i := by
  cases d <;> simp only [getS] at h <;> first | exact h | (split at h <;> cases h)
theorem getS_bl {d : D} {i : Bool} (h : getS S d = .bl i) : d = .bl i := by
  cases d <;> simp only [getS] at h <;> first | exact h | (split at h <;> cases h)
theorem getS_tup {d : D} {i : List D} (h : getS S d = .tup i) : d = .tup i := by
  cases d <;> simp only [getS] at h <;> first | exact h | (split at h <;> cases h)
end
theorem RepAll.rep {G : Gr} {m : Mp} {H : Hp} {xs : List V} {ds : List D} (h : RepAll G m H xs ds) : ∀ k : Nat, RepAll G m H (List.replicate k xs).flatten (List.replicate k ds).flatten
  | 0 => .nil
  | k + 1 => by
    rw [List.replicate_succ, List.replicate_succ, List.flatten_cons, List.flatten_cons]
    exact h.append (RepAll.rep h k)
theorem RepAll.ne {G : Gr} {m : Mp} {H : Hp} {xs : List V} {ds : List D} (h : RepAll G m H xs ds) : xs = [] ↔ ds = [] := by
  have := h.length
  constructor
  · intro e; subst e; exact List.eq_nil_of_length_eq_zero (by simpa using this.symm)
  · intro e; subst e; exact List.eq_nil_of_length_eq_zero (by simpa using this)
section
variable {G : Gr} {X : Cx}
theorem opf_add (hK : X.K = G.K) (mu : Bool) : OpF G X (binaryOp .Add) (addF mu) := by
  refine ⟨_, op_add.or (op_add_str.or (op_catA.or (opR_cat.or (opR_addib.or (opR_addbi.or opR_addbb))))), fun W τ m S σ H Q v w x y rv rw_ hA => ?_⟩
  rw [hK]
  obtain ⟨QD, QE, sr, er, hf, k, px⟩ := hA
  unfold addF at hf
  split at hf
  · rename_i i j h1 h2
    cases getS_int h1; cases getS_int h2; cases rv; cases rw_
    exact .inl ⟨_, _, rfl, rfl, k m S H _ _ (Ext.refl _ _) sr (.int _) hf⟩
  · rename_i i j h1 h2
    cases getS_str h1; cases getS_str h2; cases rv; cases rw_
    exact .inr (.inl ⟨_, _, rfl, rfl, hf.1, k m S H _ _ (Ext.refl _ _) sr (.str _) hf.2⟩)
  · rename_i i j h1 h2
    cases getS_tup h1; cases getS_tup h2
    obtain ⟨a, xs, rfl, t1, r1⟩ := rv.getT rfl
    obtain ⟨b, ys, rfl, t2, r2⟩ := rw_.getT rfl
    refine .inr (.inr (.inl ⟨a, b, xs, ys, rfl, rfl, t1, t2, by rw [r1.length, r2.length]; exact hf.1, fun e => ?_, fun _ e => ?_, fun _ _ p hp => ?_⟩))
    · cases r1.ne.mp e
      exact k m S H _ _ (Ext.refl _ _) sr rw_ (by simpa using hf.2)
    · cases r2.ne.mp e
      exact k m S H _ _ (Ext.refl _ _) sr rv (by simpa using hf.2)
    · exact At.newT (W := W) ⟨QD, QE, sr, er, hf.2, k, px⟩ hp (r1.append r2)
  · rename_i i j h1 h2
    obtain ⟨a, xs, rfl, t1, r1⟩ := rv.getL sr h1
    obtain ⟨b, ys, rfl, t2, r2⟩ := rw_.getL sr h2
    exact .inr (.inr (.inr (.inl ⟨a, b, xs, ys, rfl, rfl, hK ▸ t1, hK ▸ t2, by rw [r1.length, r2.length]; exact hf.1, fun p hp => At.newL (W := W) ⟨QD, QE, sr, er, hf.2, k, px⟩ hp (r1.append r2)⟩)))
  · rename_i i j h1 h2
    cases getS_int h1; cases getS_bl h2; cases rv; cases rw_
    exact .inr (.inr (.inr (.inr (.inl ⟨_, _, rfl, rfl, k m S H _ _ (Ext.refl _ _) sr (.int _) hf⟩))))
  · rename_i i j h1 h2
    cases getS_bl h1; cases getS_int h2; cases rv; cases rw_
    exact .inr (.inr (.inr (.inr (.inr (.inl ⟨_, _, rfl, rfl, k m S H _ _ (Ext.refl _ _) sr (.int _) hf⟩)))))
  · rename_i i j h1 h2
    cases getS_bl h1; cases getS_bl h2; cases rv; cases rw_
    exact .inr (.inr (.inr (.inr (.inr (.inr ⟨_, _, rfl, rfl, k m S H _ _ (Ext.refl _ _) sr (.int _) hf⟩)))))
  · exact hf.elim
theorem opf_sub : OpF G X (binaryOp .Sub) subF := by
  refine ⟨_, op_sub.or (opR_subib.or (opR_subbi.or opR_subbb)), fun W τ m S σ H Q v w x y rv rw_ hA => ?_⟩
  obtain ⟨QD, QE, sr, er, hf, k, px⟩ := hA
  unfold subF at hf
  split at hf
  · cases rv; cases rw_
    exact .inl ⟨_, _, rfl, rfl, k m S H _ _ (Ext.refl _ _) sr (.int _) hf⟩
  · cases rv; cases rw_
    exact .inr (.inl ⟨_, _, rfl, rfl, k m S H _ _ (Ext.refl _ _) sr (.int _) hf⟩)
  · cases rv; cases rw_
    exact .inr (.inr (.inl ⟨_, _, rfl, rfl, k m S H _ _ (Ext.refl _ _) sr (.int _) hf⟩))
  · cases rv; cases rw_
    exact .inr (.inr (.inr ⟨_, _, rfl, rfl, k m S H _ _ (Ext.refl _ _) sr (.int _) hf⟩))
  · exact hf.elim
theorem opf_mul (hK : X.K = G.K) (mu : Bool) : OpF G X (binaryOp .Mult) (mulF mu) := by
  refine ⟨_, op_mulA.or (opR_rep.or op_repT), fun W τ m S σ H Q v w x y rv rw_ hA => ?_⟩
  rw [hK]
  obtain ⟨QD, QE, sr, er, hf, k, px⟩ := hA
  unfold mulF at hf
  split at hf
  · rename_i i j h1 h2
    cases getS_int h1; cases getS_int h2; cases rv; cases rw_
    exact .inl ⟨_, _, rfl, rfl, hf.1, k m S H _ _ (Ext.refl _ _) sr (.int _) hf.2⟩
  · rename_i i j h1 h2
    obtain ⟨a, xs, rfl, t1, r1⟩ := rv.getL sr h1
    cases getS_int h2; cases rw_
    exact .inr (.inl ⟨a, _, xs, rfl, rfl, hK ▸ t1, hf.1.1, hf.1.2.1, by rw [r1.length]; exact hf.1.2.2, fun p hp => At.newL (W := W) ⟨QD, QE, sr, er, hf.2, k, px⟩ hp (r1.rep _)⟩)
  · rename_i i j h1 h2
    cases getS_tup h1
    obtain ⟨a, xs, rfl, t1, r1⟩ := rv.getT rfl
    cases getS_int h2; cases rw_
    exact .inr (.inr ⟨a, _, xs, rfl, rfl, t1, fun e => hf.1.1 (r1.ne.mp e), hf.1.2.1, hf.1.2.2.1, by rw [r1.length]; exact hf.1.2.2.2, fun p hp => At.newT (W := W) ⟨QD, QE, sr, er, hf.2, k, px⟩ hp (r1.rep _)⟩)
  · exact hf.elim
end
end Dx

set_option Elab.async false
set_option linter.all false
set_option maxRecDepth 100000
set_option maxHeartbeats 4000000
/-! DX, part 5: places, slices, truth, and, or, not, if, displays, arguments. -/
namespace Dx
open PySem PySem.Spec PyProof.Rows L2

/-! ### places -/
def idxF (x y : D) : F := fun _ S Q _ => match getS S x, y with
  | .tup ds, .int i => (match atI ds i with | some d => Q d S | none => False)
  | .lst ds, .int i => (match atI ds i with | some d => Q d S | none => False)
  | .str z, .int i => z.length ≤ sizeLine ∧ (match atI z.cps.toList i with | some c => Q (.str ⟨#[c]⟩) S | none => False)
  | _, _ => False
theorem RepAll.atI {G : Gr} {m : Mp} {H : Hp} {xs : List V} {ds : List D} (r : RepAll G m H xs ds) {i : Int} {d : D} (h : L2.atI ds i = some d) : ∃ v, L2.atI xs i = some v ∧ Rep G m H v d := by
  unfold L2.atI at h ⊢
  rw [r.length]
  obtain ⟨j, h1, h2⟩ := Option.bind_eq_some_iff.mp h
  obtain ⟨v, h3, h4⟩ := r.get h2
  exact ⟨v, Option.bind_eq_some_iff.mpr ⟨j, h1, h3⟩, h4⟩
section
variable {G : Gr} {X : Cx} {W : WX} {a b e : Expr} {pos : Pos} {fa fb : F}
theorem e_idx (hK : X.K = G.K) (ha : PE X a (tE G W fa)) (hb : PE X b (tE G W fb)) (hs : PlainIx b) : PE X (.Subscript a b pos) (tE G W (bindF fa fun x => bindF fb fun y => idxF x y)) := by
  refine PE.imp (pe_ix ix_seq ha hb hs) fun σ H Q ⟨τ, m, S, h⟩ => ?_
  refine ⟨τ, m, S, h.seq fun m1 S1 H1 v x e1 sr1 r1 h1 => ⟨τ, m1, S1, h1.seq fun m2 S2 H2 w y e2 sr2 r2 h2 => ?_⟩⟩
  have r1' := r1.mono sr1 e2
  rw [hK]
  obtain ⟨QD, QE, sr, er, hf, k, px⟩ := h2
  unfold idxF at hf
  split at hf
  · rename_i ds i h1
    cases getS_tup h1
    cases r2
    obtain ⟨p, xs, rfl, t1, ra⟩ := r1'.getT rfl
    split at hf
    · rename_i d hd
      obtain ⟨v, h3, h4⟩ := ra.atI hd
      exact .inr (.inl ⟨p, xs, i, v, rfl, rfl, t1, h3, k m2 S2 H2 v d (Ext.refl _ _) sr h4 hf⟩)
    · exact hf.elim
  · rename_i ds i h1
    cases r2
    obtain ⟨p, xs, rfl, t1, ra⟩ := r1'.getL sr h1
    split at hf
    · rename_i d hd
      obtain ⟨v, h3, h4⟩ := ra.atI hd
      exact .inl ⟨p, xs, i, v, rfl, rfl, t1.sq, h3, k m2 S2 H2 v d (Ext.refl _ _) sr h4 hf⟩
    · exact hf.elim
  · rename_i z i h1
    cases getS_str h1
    cases r1'; cases r2
    obtain ⟨hz, hf⟩ := hf
    split at hf
    · rename_i c hc
      exact .inr (.inr ⟨z, i, c, rfl, rfl, hz, hc, k m2 S2 H2 _ _ (Ext.refl _ _) sr (.str _) hf⟩)
    · exact hf.elim
  · exact hf.elim
end

/-! ### slices -/
def cutD {α : Type} (ds : List α) (lo hi : Option Int) : List α := (ds.drop (HT.sIx ds.length 0 lo)).take (HT.sIx ds.length ds.length hi - HT.sIx ds.length 0 lo)
theorem RepAll.cut {G : Gr} {m : Mp} {H : Hp} {xs : List V} {ds : List D} (r : RepAll G m H xs ds) (lo hi : Option Int) : RepAll G m H (cutV xs lo hi) (cutD ds lo hi) := by
  unfold cutV cutD
  rw [r.length]
  exact (r.drop _).take _
theorem cutD_whole {α : Type} {ds : List α} {lo hi : Option Int} (h : HT.sIx ds.length 0 lo = 0 ∧ HT.sIx ds.length ds.length hi = ds.length) : cutD ds lo hi = ds := by
  unfold cutD
  rw [h.1, h.2]
  simp
def slcF (mu : Bool) (x : D) (lo hi : Option Int) : F := fun τ S Q E => match getS S x with
  | .tup ds => Q (.tup (cutD ds lo hi)) S
  | .lst ds => newL mu (cutD ds lo hi) τ S Q E
  | .str z => z.length ≤ sizeLine ∧ Q (.str (cutS z lo hi)) S
  | _ => False
def noF : FG (Option Int) := retF none
def intF (d : D) : FG (Option Int) := fun _ S Q _ => match d with
  | .int i => Q (some i) S
  | _ => False
section
variable {G : Gr} {X : Cx} {W : WX} {a b e : Expr} {pos p2 : Pos} {fa fb : F} {lo hi : Option Expr} {fl fh : FG (Option Int)}
theorem o_none : PO X none (tO G W noF) := ⟨fun pins s σ H Q I ⟨τ, m, S, h⟩ => po_none.run pins s σ H Q I (h.ret m H none (Ext.refl _ _) h.sr rfl)⟩
theorem o_some (h : PE X e (tE G W fa)) : PO X (some e) (tO G W (bindF fa intF)) := ⟨fun pins s σ H Q I ⟨τ, m, S, hA⟩ => (po_some h).run pins s σ H Q I ⟨τ, m, S, hA.seq fun m1 S1 H1 v d e1 sr1 r1 h1 => by
  obtain ⟨QD, QE, sr, er, hf, k, px⟩ := h1
  unfold intF at hf
  split at hf
  · rename_i i
    cases r1
    exact ⟨i, rfl, k m1 S1 H1 _ _ (Ext.refl _ _) sr rfl hf⟩
  · exact hf.elim⟩⟩
theorem e_slc (hK : X.K = G.K) (mu : Bool) (ha : PE X a (tE G W fa)) (hl : PO X lo (tO G W fl)) (hh : PO X hi (tO G W fh)) :
    PE X (.Subscript a (.Slice lo hi none p2) pos) (tE G W (bindF fa fun x => bindF fl fun l => bindF fh fun h => slcF mu x l h)) := by
  refine PE.imp (pe_slice (sl_list.or (sl_tupA.or sl_str)) ha hl hh) fun σ H Q ⟨τ, m, S, h⟩ => ?_
  refine ⟨τ, m, S, h.seq fun m1 S1 H1 v x e1 sr1 r1 h1 => ⟨τ, m1, S1, h1.seq fun m2 S2 H2 l l' e2 sr2 r2 h2 => ⟨τ, m2, S2, h2.seq fun m3 S3 H3 u u' e3 sr3 r3 h3 => ?_⟩⟩⟩
  cases (show l = l' from r2); cases (show u = u' from r3)
  have r1' := (r1.mono sr1 e2).mono sr2 e3
  rw [hK]
  obtain ⟨QD, QE, sr, er, hf, k, px⟩ := h3
  unfold slcF at hf
  split at hf
  · rename_i ds h1
    cases getS_tup h1
    obtain ⟨p, xs, rfl, t1, ra⟩ := r1'.getT rfl
    refine .inr (.inl ⟨p, xs, rfl, t1, fun hw => ?_, fun _ q hq => At.newT (W := W) ⟨QD, QE, sr, er, hf, k, px⟩ hq (ra.cut _ _)⟩)
    rw [ra.length] at hw
    rw [cutD_whole hw] at hf
    exact k m3 S3 H3 _ _ (Ext.refl _ _) sr r1' hf
  · rename_i ds h1
    obtain ⟨p, xs, rfl, t1, ra⟩ := r1'.getL sr h1
    exact .inl ⟨p, xs, rfl, t1.sq, fun q hq => At.newL (W := W) ⟨QD, QE, sr, er, hf, k, px⟩ hq (ra.cut _ _)⟩
  · rename_i z h1
    cases getS_str h1
    cases r1'
    exact .inr (.inr ⟨z, rfl, hf.1, k m3 S3 H3 _ _ (Ext.refl _ _) sr (.str _) hf.2⟩)
  · exact hf.elim
end

/-! ### truth -/
def truD (S : Store) (d : D) : Option Bool := match getS S d with
  | .non => some false
  | .bl b => some b
  | .int i => some (i != 0)
  | .str y => if y.length ≤ sizeLine then some ((y.length : Int) != 0) else none
  | .tup ds => some !ds.isEmpty
  | .lst ds => some !ds.isEmpty
  | _ => none
def truF (d : D) : FG Bool := optF fun S => truD S d
theorem RepAll.empty {G : Gr} {m : Mp} {H : Hp} {xs : List V} {ds : List D} (r : RepAll G m H xs ds) : xs.isEmpty = ds.isEmpty := by cases r <;> rfl
theorem getS_non {S : Store} {d : D} (h : getS S d = .non) : d = .non := by
  cases d with
  | non => rfl
  | obj n => simp only [getS] at h; split at h <;> cases h
  | _ => cases h
theorem Rep.tru {G : Gr} {m : Mp} {S : Store} {H : Hp} {v : V} {d : D} {b : Bool} (sr : SR G m S H) (r : Rep G m H v d) (h : truD S d = some b) : TruV G.K v H b := by
  unfold truD at h
  split at h
  · rename_i q
    cases getS_non q; cases r; cases h; rfl
  · rename_i q
    cases getS_bl q; cases r; cases h; rfl
  · rename_i q
    cases getS_int q; cases r; cases h; rfl
  · rename_i q
    cases getS_str q; cases r
    split at h
    · rename_i hl
      cases h; exact ⟨hl, rfl⟩
    · cases h
  · rename_i q
    cases getS_tup q
    cases h
    obtain ⟨p, xs, rfl, t1, ra⟩ := r.getT rfl
    exact .inr (.inl ⟨xs, t1, by rw [ra.empty]⟩)
  · rename_i q
    cases h
    obtain ⟨p, xs, rfl, t1, ra⟩ := r.getL sr q
    exact .inl ⟨xs, t1.sq, by rw [ra.empty]⟩
  · cases h
section
variable {G : Gr} {X : Cx} {W : WX} {a b c e : Expr} {pos p2 : Pos} {fa fb : F} {ta tb tc : FG Bool} {rest : List Expr}
/-- an expression of any kind as a test -/
theorem t_truth (hK : X.K = G.K) (ha : PE X a (tE G W fa)) (he : ∀ whole, isTrue a X.env whole = (do let v ← whole; standAt a.pos; holding [v] (truthy v))) : PT X a (tT G W (bindF fa truF)) :=
  PT.imp (pt_truth ha he) fun σ H Q ⟨τ, m, S, h⟩ => ⟨τ, m, S, h.seq fun m1 S1 H1 v x e1 sr1 r1 h1 => by
    obtain ⟨b, hb, k⟩ := h1.fin
    exact ⟨b, by rw [hK]; exact r1.tru h1.sr hb, k m1 H1 b (Ext.refl _ _) h1.sr rfl⟩⟩
theorem t_cmp {op : CmpOp} {g : D → D → F} (ho : OpF G X (compareOp op) g) (hg : ∀ x y τ S Q E, g x y τ S Q E → g x y τ S (fun d S' => ∃ b, d = .bl b ∧ Q d S') E) (ha : PE X a (tE G W fa)) (hb : PE X b (tE G W fb)) (hm : behindInMarks op b = false) :
    PT X (.Compare a [op] [b] pos) (tT G W (bindF fa fun x => bindF fb fun y => bindF (g x y) truF)) := by
  obtain ⟨r, hr, k⟩ := ho
  refine PT.imp (pt_cmpR hr ha hb hm) fun σ H Q ⟨τ, m, S, h⟩ => ?_
  refine ⟨τ, m, S, h.seq fun m1 S1 H1 v d e1 sr1 r1 h1 => ⟨τ, m1, S1, h1.seq fun m2 S2 H2 w d' e2 sr2 r2 h2 => ?_⟩⟩
  refine k W τ m2 S2 σ H2 _ v w d d' (r1.mono sr1 e2) r2 ?_
  obtain ⟨QD, QE, sr, er, hf, kk, px⟩ := h2
  refine ⟨_, QE, sr, er, hg _ _ _ _ _ _ hf, fun m3 S3 H3 u x e3 sr3 r3 q3 => ?_, px⟩
  obtain ⟨b, rfl, q3⟩ := q3
  cases r3
  exact ⟨b, rfl, kk m3 S3 H3 b b e3 sr3 rfl q3⟩
/-- not -/
def notF (f : FG Bool) : FG Bool := bindF f fun b => retF !b
theorem t_not (ha : PT X a (tT G W ta)) : PT X (.UnaryOp .Not a pos) (tT G W (notF ta)) :=
  PT.imp (pt_not ha) fun σ H Q ⟨τ, m, S, h⟩ => ⟨τ, m, S, h.seq fun m1 S1 H1 v x e1 sr1 r1 h1 => by
    cases (show v = x from r1)
    exact h1.ret m1 H1 _ (Ext.refl _ _) h1.sr rfl⟩
/-- and, or -/
def andF (f g : FG Bool) : FG Bool := bindF f fun b => if b = true then g else retF false
def orF (f g : FG Bool) : FG Bool := bindF f fun b => if b = true then retF true else g
theorem w_one_and (ha : PT X a (tT G W ta)) : PW X (.BoolOp .And [a] pos) (tT G W ta) := pw_and1 ha
theorem w_one_or (ha : PT X a (tT G W ta)) : PW X (.BoolOp .Or [a] pos) (tT G W ta) := pw_or1 ha
theorem w_and (ha : PT X a (tT G W ta)) (hb : PW X (.BoolOp .And (b :: rest) pos) (tT G W tb)) : PW X (.BoolOp .And (a :: b :: rest) pos) (tT G W (andF ta tb)) :=
  PW.imp (pw_and ha hb) fun σ H Q ⟨τ, m, S, h⟩ => ⟨τ, m, S, h.seq fun m1 S1 H1 v x e1 sr1 r1 h1 => by
    cases (show v = x from r1)
    cases v with
    | true => exact iteT ⟨τ, m1, S1, h1⟩
    | false => exact iteF (h1.ret m1 H1 _ (Ext.refl _ _) h1.sr rfl)⟩
theorem w_or (ha : PT X a (tT G W ta)) (hb : PW X (.BoolOp .Or (b :: rest) pos) (tT G W tb)) : PW X (.BoolOp .Or (a :: b :: rest) pos) (tT G W (orF ta tb)) :=
  PW.imp (pw_or ha hb) fun σ H Q ⟨τ, m, S, h⟩ => ⟨τ, m, S, h.seq fun m1 S1 H1 v x e1 sr1 r1 h1 => by
    cases (show v = x from r1)
    cases v with
    | true => exact iteT (h1.ret m1 H1 _ (Ext.refl _ _) h1.sr rfl)
    | false => exact iteF ⟨τ, m1, S1, h1⟩⟩
/-- .. as values -/
def andV (f g : F) : F := bindF f fun d => bindF (truF d) fun b => if b = true then g else retF d
def orV (f g : F) : F := bindF f fun d => bindF (truF d) fun b => if b = true then retF d else g
def notV (f : F) : F := bindF f fun d => bindF (truF d) fun b => retF (.bl !b)
theorem e_andV (hK : X.K = G.K) (ha : PE X a (tE G W fa)) (hb : PE X (.BoolOp .And (b :: rest) pos) (tE G W fb)) : PE X (.BoolOp .And (a :: b :: rest) pos) (tE G W (andV fa fb)) :=
  PE.imp (pe_andT ha hb) fun σ H Q ⟨τ, m, S, h⟩ => ⟨τ, m, S, h.seq fun m1 S1 H1 v x e1 sr1 r1 h1 => by
    obtain ⟨b, hb, h2⟩ := h1.opt
    refine ⟨b, by rw [hK]; exact r1.tru sr1 hb, ?_⟩
    cases b with
    | true => rw [if_pos rfl] at h2; exact iteT ⟨τ, m1, S1, h2⟩
    | false => rw [if_neg Bool.false_ne_true] at h2; exact iteF (h2.ret m1 H1 _ (Ext.refl _ _) sr1 r1)⟩
theorem e_orV (hK : X.K = G.K) (ha : PE X a (tE G W fa)) (hb : PE X (.BoolOp .Or (b :: rest) pos) (tE G W fb)) : PE X (.BoolOp .Or (a :: b :: rest) pos) (tE G W (orV fa fb)) :=
  PE.imp (pe_orT ha hb) fun σ H Q ⟨τ, m, S, h⟩ => ⟨τ, m, S, h.seq fun m1 S1 H1 v x e1 sr1 r1 h1 => by
    obtain ⟨b, hb, h2⟩ := h1.opt
    refine ⟨b, by rw [hK]; exact r1.tru sr1 hb, ?_⟩
    cases b with
    | true => rw [if_pos rfl] at h2; exact iteT (h2.ret m1 H1 _ (Ext.refl _ _) sr1 r1)
    | false => rw [if_neg Bool.false_ne_true] at h2; exact iteF ⟨τ, m1, S1, h2⟩⟩
theorem e_notV (hK : X.K = G.K) (ha : PE X a (tE G W fa)) : PE X (.UnaryOp .Not a pos) (tE G W (notV fa)) :=
  PE.imp (pe_notT ha) fun σ H Q ⟨τ, m, S, h⟩ => ⟨τ, m, S, h.seq fun m1 S1 H1 v x e1 sr1 r1 h1 => by
    obtain ⟨b, hb, h2⟩ := h1.opt
    exact ⟨b, by rw [hK]; exact r1.tru sr1 hb, h2.ret m1 H1 _ (Ext.refl _ _) sr1 (.bl _)⟩⟩
/-- a if t else b -/
def iteV {β : Type} (t : FG Bool) (f g : FG β) : FG β := bindF t fun b => if b = true then f else g
theorem e_ife (hc : PT X c (tT G W tc)) (ha : PE X a (tE G W fa)) (hb : PE X b (tE G W fb)) : PE X (.IfExp c a b pos) (tE G W (iteV tc fa fb)) :=
  PE.imp (pe_ifExp hc ha hb) fun σ H Q ⟨τ, m, S, h⟩ => ⟨τ, m, S, h.seq fun m1 S1 H1 v x e1 sr1 r1 h1 => by
    cases (show v = x from r1)
    cases v with
    | true => exact iteT ⟨τ, m1, S1, h1⟩
    | false => exact iteF ⟨τ, m1, S1, h1⟩⟩
theorem e_neg (ha : PE X a (tE G W fa)) : PE X (.UnaryOp .USub a pos) (tE G W (bindF fa fun x => optF fun _ => match x with | .int i => some (.int (-i)) | _ => none)) :=
  PE.imp (pe_un un_neg ha) fun σ H Q ⟨τ, m, S, h⟩ => ⟨τ, m, S, h.seq fun m1 S1 H1 v x e1 sr1 r1 h1 => by
    obtain ⟨d, hd, k⟩ := h1.fin
    split at hd
    · cases hd; cases r1
      exact ⟨_, rfl, k m1 H1 _ (Ext.refl _ _) sr1 (.int _)⟩
    · cases hd⟩
/-- a < b < c -/
def chF (g g' : D → D → F) (fa fb fc : F) : F := bindF fa fun x => bindF fb fun y => bindF (g x y) fun z => bindF (optF fun _ => match z with | .bl b => some b | _ => none) fun k => if k = true then bindF fc fun u => g' y u else retF (.bl false)
def chT (g g' : D → D → F) (fa fb fc : F) : FG Bool := bindF fa fun x => bindF fb fun y => bindF (g x y) fun z => bindF (optF fun _ => match z with | .bl b => some b | _ => none) fun k => if k = true then bindF fc fun u => bindF (g' y u) truF else retF false
end

/-! ### argument lists, displays -/
def nilF : FG (List D) := retF []
def consF (f : F) (g : FG (List D)) : FG (List D) := bindF f fun x => bindF g fun xs => retF (x :: xs)
section
variable {G : Gr} {X : Cx} {W : WX} {e : Expr} {es : List Expr} {pos : Pos} {f : F} {g : FG (List D)}
theorem a_nil : PA X [] (tA G W nilF) := PA.imp pa_nil fun σ H Q ⟨τ, m, S, h⟩ => h.ret m H [] (Ext.refl _ _) h.sr .nil
theorem a_cons (ha : PE X e (tE G W f)) (hr : PA X es (tA G W g)) (hs : starEach (e :: es) X.env = (false, eval e X.env) :: starEach es X.env) : PA X (e :: es) (tA G W (consF f g)) :=
  PA.imp (pa_cons ha hr hs) fun σ H Q ⟨τ, m, S, h⟩ => ⟨τ, m, S, h.seq fun m1 S1 H1 v x e1 sr1 r1 h1 => ⟨τ, m1, S1, h1.seq fun m2 S2 H2 vs xs e2 sr2 r2 h2 => h2.ret m2 H2 _ (Ext.refl _ _) sr2 (.cons (r1.mono sr1 e2) r2)⟩⟩
def lenF (n : Nat) : FG Unit := fun _ S Q _ => n ≤ sizeLine ∧ Q () S
theorem e_tup {x1} (h : PA X es (tA G W g)) : PE X (.Tuple es x1 pos) (tE G W (bindF g fun ds τ S Q E => ds.length ≤ sizeLine ∧ Q (.tup ds) S)) :=
  PE.imp (pe_tup h) fun σ H Q ⟨τ, m, S, hA⟩ => ⟨τ, m, S, hA.seq fun m1 S1 H1 vs ds e1 sr1 r1 h1 => by
    obtain ⟨QD, QE, sr, er, hf, k, px⟩ := h1
    exact ⟨by rw [r1.length]; exact hf.1, fun p hp => At.newT (W := W) ⟨QD, QE, sr, er, hf.2, k, px⟩ hp r1⟩⟩
theorem e_lst (mu : Bool) (h : PA X es (tA G W g)) : PE X (.List es pos) (tE G W (bindF g fun ds τ S Q E => ds.length ≤ sizeLine ∧ newL mu ds τ S Q E)) :=
  PE.imp (pe_lst h) fun σ H Q ⟨τ, m, S, hA⟩ => ⟨τ, m, S, hA.seq fun m1 S1 H1 vs ds e1 sr1 r1 h1 => by
    obtain ⟨QD, QE, sr, er, hf, k, px⟩ := h1
    exact ⟨by rw [r1.length]; exact hf.1, fun p hp => At.newL (W := W) ⟨QD, QE, sr, er, hf.2, k, px⟩ hp r1⟩⟩
/-- a list of the store told as a value -/
def frzF (d : D) : F := fun _ S Q _ => match d with
  | .obj n => (match S[n]? with | some (.lst ds) => Q (.lst ds) (S.set n .dead) | _ => False)
  | _ => False
theorem e_frz (h : PE X e (tE G W f)) : PE X e (tE G W (bindF f frzF)) := ⟨fun pins s σ H Q I ⟨τ, m, S, hA⟩ => h.run pins s σ H Q I ⟨τ, m, S, hA.seq fun m1 S1 H1 v d e1 sr1 r1 h1 => by
  obtain ⟨QD, QE, sr, er, hf, k, px⟩ := h1
  unfold frzF at hf
  split at hf
  · rename_i n
    split at hf
    · rename_i ds hs
      cases r1 with
      | @obj _ a h1 h2 =>
        cases q : m1.sl[n]? with
        | none => rw [List.getElem?_eq_none_iff] at q; omega
        | some o =>
          cases o with
          | none =>
            have z := sr.dead n q
            rw [hs] at z; cases z
          | some b =>
            have e := h2 b q
            subst e
            exact k (m1.kill n) (S1.set n .dead) H1 _ _ Ext.frozen sr.frozen (rep_frozen sr q hs) hf
    · exact hf.elim
  · exact hf.elim⟩⟩
end

/-! ### built-ins by name -/
/-- what a built-in makes of its arguments -/
def BF (G : Gr) (X : Cx) (f : Value) (g : List D → F) : Prop :=
  ∃ r, CallR X f r ∧ ∀ (W : WX) (τ : Env) (m : Mp) (S : Store) (σ : L2.St) (H : Hp) (Q : VK) (vs : List V) (ds : List D), RepAll G m H vs ds → At G (rV G) W (g ds) τ m S σ H Q → r vs H Q
section
variable {G : Gr} {X : Cx} {W : WX} {x : Str} {p pos : Pos} {e : Expr} {es : List Expr} {fa : FG (List D)} {g : List D → F} {id T : String}
theorem tCB_imp {r : List V → Hp → VK → Prop} (k : ∀ (W : WX) (τ : Env) (m : Mp) (S : Store) (σ : L2.St) (H : Hp) (Q : VK) (vs : List V) (ds : List D), RepAll G m H vs ds → At G (rV G) W (g ds) τ m S σ H Q → r vs H Q) (σ : L2.St) (H : Hp) (Q : VK)
    (h : tE G W (bindF fa g) σ H Q) : tCB r (tA G W fa) σ H Q := by
  obtain ⟨τ, m, S, h⟩ := h
  exact ⟨τ, m, S, h.seq fun m1 S1 H1 vs ds e1 sr1 r1 h1 => k W τ m1 S1 σ H1 Q vs ds r1 h1⟩
theorem e_callB (hc : BF G X (.builtin id) g) (hg : Gl X x) (hm : X.mg x = none) (hv : bootBuiltins x = some (.builtin id)) (ha : PA X (e :: es) (tA G W fa)) (hn : x ≠ "__name__") (hdb : (x == ("__debug__" : Str)) = false)
    (he : starEach (e :: es) X.env = (false, eval e X.env) :: starEach es X.env) (hpl : (backTo pos (starEach es X.env)).any (·.1) = false) : PE X (.Call (.Name x p) (e :: es) [] pos) (tE G W (bindF fa g)) := by
  obtain ⟨r, hr, k⟩ := hc
  exact PE.imp (pe_callB hr hg hm hv ha hn hdb he hpl) (tCB_imp k)
theorem e_callTy (hc : BF G X (.type T) g) (hg : Gl X x) (hm : X.mg x = none) (hv : bootBuiltins x = some (.type T)) (ha : PA X (e :: es) (tA G W fa)) (hn : x ≠ "__name__") (hdb : (x == ("__debug__" : Str)) = false)
    (he : starEach (e :: es) X.env = (false, eval e X.env) :: starEach es X.env) (hpl : (backTo pos (starEach es X.env)).any (·.1) = false) : PE X (.Call (.Name x p) (e :: es) [] pos) (tE G W (bindF fa g)) := by
  obtain ⟨r, hr, k⟩ := hc
  exact PE.imp (pe_callTy hr hg hm hv ha hn hdb he hpl) (tCB_imp k)
theorem e_callBfun (hc : BF G X (.builtin id) g) (hg : Gl X x) (hm : X.mg x = some (.builtin id)) (ha : PA X (e :: es) (tA G W fa)) (hdb : (x == ("__debug__" : Str)) = false)
    (he : starEach (e :: es) X.env = (false, eval e X.env) :: starEach es X.env) (hpl : (backTo pos (starEach es X.env)).any (·.1) = false) : PE X (.Call (.Name x p) (e :: es) [] pos) (tE G W (bindF fa g)) := by
  obtain ⟨r, hr, k⟩ := hc
  exact PE.imp (pe_callBfun hr hg hm ha hdb he hpl) (tCB_imp k)
end
end Dx

set_option Elab.async false
set_option linter.all false
set_option maxRecDepth 100000
set_option maxHeartbeats 4000000
/-! DX, part 6: built-in functions. -/
namespace Dx
open PySem PySem.Spec PyProof.Rows L2

section
variable {G : Gr} {X : Cx}
/-! abs, int, bool, gcd, str -/
def absB (ds : List D) : F := optF fun _ => match ds with
  | [.int i] => some (.int (if i < 0 then -i else i))
  | _ => none
theorem bf_abs : BF G X (.builtin "abs") absB := by
  refine ⟨_, call_abs, fun W τ m S σ H Q vs ds r hA => ?_⟩
  obtain ⟨d, hd, k⟩ := hA.fin
  split at hd
  · cases hd
    cases r with
    | cons a r => cases r; cases a; exact ⟨_, rfl, k m H _ (Ext.refl _ _) hA.sr (.int _)⟩
  · cases hd
def intB (ds : List D) : F := optF fun _ => match ds with
  | [.int i] => some (.int i)
  | [.bl b] => some (.int (if b then 1 else 0))
  | _ => none
theorem bf_int : BF G X (.type "int") intB := by
  refine ⟨_, call_int1, fun W τ m S σ H Q vs ds r hA => ?_⟩
  obtain ⟨d, hd, k⟩ := hA.fin
  split at hd
  · cases hd
    cases r with
    | cons a r => cases r; cases a; exact .inl ⟨_, rfl, k m H _ (Ext.refl _ _) hA.sr (.int _)⟩
  · cases hd
    cases r with
    | cons a r => cases r; cases a; exact .inr ⟨_, rfl, k m H _ (Ext.refl _ _) hA.sr (.int _)⟩
  · cases hd
def gcdB (ds : List D) : F := optF fun _ => match ds with
  | [.int i, .int j] => some (.int ((Nat.gcd i.natAbs j.natAbs : Nat) : Int))
  | _ => none
theorem bf_gcd : BF G X (.builtin "math.gcd") gcdB := by
  refine ⟨_, cr_gcd, fun W τ m S σ H Q vs ds r hA => ?_⟩
  obtain ⟨d, hd, k⟩ := hA.fin
  split at hd
  · cases hd
    cases r with
    | cons a r =>
      cases r with
      | cons b r => cases r; cases a; cases b; exact ⟨_, _, rfl, k m H _ (Ext.refl _ _) hA.sr (.int _)⟩
  · cases hd
def strB (ds : List D) : F := optF fun _ => match ds with
  | [.int i] => if i.natAbs.log2 < 1920 then some (.str (toString i)) else none
  | _ => none
theorem bf_str : BF G X (.type "str") strB := by
  refine ⟨_, call_str_int, fun W τ m S σ H Q vs ds r hA => ?_⟩
  obtain ⟨d, hd, k⟩ := hA.fin
  split at hd
  · split at hd
    · rename_i hl
      cases hd
      cases r with
      | cons a r => cases r; cases a; exact ⟨_, rfl, hl, k m H _ (Ext.refl _ _) hA.sr (.str _)⟩
    · cases hd
  · cases hd
/-! len -/
def lenB (ds : List D) : F := optF fun S => match ds with
  | [d] => (match getS S d with
    | .tup xs => some (.int xs.length)
    | .lst xs => some (.int xs.length)
    | .str z => if z.length ≤ sizeLine then some (.int z.length) else none
    | _ => none)
  | _ => none
theorem bf_len (hK : X.K = G.K) : BF G X (.builtin "len") lenB := by
  refine ⟨_, call_len_seq.or call_len_str, fun W τ m S σ H Q vs ds r hA => ?_⟩
  obtain ⟨d, hd, k⟩ := hA.fin
  split at hd
  · cases r with
    | cons a r =>
      cases r
      split at hd
      · rename_i q
        cases getS_tup q
        cases hd
        obtain ⟨p, xs, rfl, t1, ra⟩ := a.getT rfl
        exact .inl ⟨p, xs, rfl, .inr (hK ▸ t1), k m H _ (Ext.refl _ _) hA.sr (by rw [ra.length]; exact .int _)⟩
      · rename_i q
        cases hd
        obtain ⟨p, xs, rfl, t1, ra⟩ := a.getL hA.sr q
        exact .inl ⟨p, xs, rfl, .inl (hK ▸ t1.sq), k m H _ (Ext.refl _ _) hA.sr (by rw [ra.length]; exact .int _)⟩
      · rename_i q
        cases getS_str q
        split at hd
        · rename_i hl
          cases hd
          cases a
          exact .inr ⟨_, rfl, hl, k m H _ (Ext.refl _ _) hA.sr (.int _)⟩
        · cases hd
      · cases hd
  · cases hd
/-! tuple(x), list(x) -/
def tupB (ds : List D) : F := fun _ S Q _ => match ds with
  | [d] => (match getS S d with
    | .tup xs => Q (.tup xs) S
    | .lst xs => Q (.tup xs) S
    | _ => False)
  | _ => False
theorem bf_tup (hK : X.K = G.K) : BF G X (.type "tuple") tupB := by
  refine ⟨_, call_tuple_of, fun W τ m S σ H Q vs ds r hA => ?_⟩
  obtain ⟨QD, QE, sr, er, hf, k, px⟩ := hA
  unfold tupB at hf
  split at hf
  · cases r with
    | cons a r =>
      cases r
      split at hf
      · rename_i q
        cases getS_tup q
        obtain ⟨p, xs, rfl, t1, ra⟩ := a.getT rfl
        exact ⟨p, xs, rfl, .inr ⟨hK ▸ t1, k m S H _ _ (Ext.refl _ _) sr a hf⟩⟩
      · rename_i q
        obtain ⟨p, xs, rfl, t1, ra⟩ := a.getL sr q
        exact ⟨p, xs, rfl, .inl ⟨hK ▸ t1.sq, fun l hl => At.newT (W := W) ⟨QD, QE, sr, er, hf, k, px⟩ hl ra⟩⟩
      · exact hf.elim
  · exact hf.elim
def lstB (mu : Bool) (ds : List D) : F := fun τ S Q E => match ds with
  | [d] => (match getS S d with
    | .tup xs => newL mu xs τ S Q E
    | .lst xs => newL mu xs τ S Q E
    | _ => False)
  | _ => False
theorem bf_lst (hK : X.K = G.K) (mu : Bool) : BF G X (.type "list") (lstB mu) := by
  refine ⟨_, call_list_of, fun W τ m S σ H Q vs ds r hA => ?_⟩
  obtain ⟨QD, QE, sr, er, hf, k, px⟩ := hA
  unfold lstB at hf
  split at hf
  · cases r with
    | cons a r =>
      cases r
      split at hf
      · rename_i q
        cases getS_tup q
        obtain ⟨p, xs, rfl, t1, ra⟩ := a.getT rfl
        exact ⟨p, xs, rfl, .inr (hK ▸ t1), fun l hl => At.newL (W := W) ⟨QD, QE, sr, er, hf, k, px⟩ hl ra⟩
      · rename_i q
        obtain ⟨p, xs, rfl, t1, ra⟩ := a.getL sr q
        exact ⟨p, xs, rfl, .inl (hK ▸ t1.sq), fun l hl => At.newL (W := W) ⟨QD, QE, sr, er, hf, k, px⟩ hl ra⟩
      · exact hf.elim
  · exact hf.elim
/-! all, any, sum, max, min -/
def asBl : D → Option Bool
  | .bl b => some b
  | _ => none
def asInt : D → Option Int
  | .int b => some b
  | _ => none
def allSome {α : Type} (f : D → Option α) : List D → Option (List α)
  | [] => some []
  | d :: ds => (f d).bind fun b => (allSome f ds).map fun bs => b :: bs
theorem allSome_bl {m : Mp} {H : Hp} : ∀ {xs : List V} {ds : List D} {bs : List Bool}, RepAll G m H xs ds → allSome asBl ds = some bs → xs = bs.map V.bl
  | _, _, _, .nil, h => by cases h; rfl
  | _, _, _, .cons a r, h => by
    unfold allSome at h
    obtain ⟨b, h1, h2⟩ := Option.bind_eq_some_iff.mp h
    obtain ⟨bs, h3, rfl⟩ := Option.map_eq_some_iff.mp h2
    rw [allSome_bl r h3]
    cases a <;> cases h1
    rfl
theorem allSome_int {m : Mp} {H : Hp} : ∀ {xs : List V} {ds : List D} {bs : List Int}, RepAll G m H xs ds → allSome asInt ds = some bs → xs = bs.map V.int
  | _, _, _, .nil, h => by cases h; rfl
  | _, _, _, .cons a r, h => by
    unfold allSome at h
    obtain ⟨b, h1, h2⟩ := Option.bind_eq_some_iff.mp h
    obtain ⟨bs, h3, rfl⟩ := Option.map_eq_some_iff.mp h2
    rw [allSome_int r h3]
    cases a <;> cases h1
    rfl
def allB (ds : List D) : F := optF fun S => match ds with
  | [d] => (match getS S d with
    | .lst xs => (allSome asBl xs).map fun bs => .bl (bs.all id)
    | _ => none)
  | _ => none
def anyB (ds : List D) : F := optF fun S => match ds with
  | [d] => (match getS S d with
    | .lst xs => (allSome asBl xs).map fun bs => .bl (bs.any id)
    | _ => none)
  | _ => none
theorem bf_all (hK : X.K = G.K) (hc : X.calm = true) : BF G X (.builtin "all") allB := by
  refine ⟨_, cr_all hc, fun W τ m S σ H Q vs ds r hA => ?_⟩
  obtain ⟨d, hd, k⟩ := hA.fin
  split at hd
  · cases r with
    | cons a r =>
      cases r
      split at hd
      · rename_i q
        obtain ⟨bs, h1, rfl⟩ := Option.map_eq_some_iff.mp hd
        obtain ⟨p, xs, rfl, t1, ra⟩ := a.getL hA.sr q
        cases allSome_bl ra h1
        exact ⟨p, bs, rfl, hK ▸ t1.sq, k m H _ (Ext.refl _ _) hA.sr (.bl _)⟩
      · cases hd
  · cases hd
theorem bf_any (hK : X.K = G.K) (hc : X.calm = true) : BF G X (.builtin "any") anyB := by
  refine ⟨_, cr_any hc, fun W τ m S σ H Q vs ds r hA => ?_⟩
  obtain ⟨d, hd, k⟩ := hA.fin
  split at hd
  · cases r with
    | cons a r =>
      cases r
      split at hd
      · rename_i q
        obtain ⟨bs, h1, rfl⟩ := Option.map_eq_some_iff.mp hd
        obtain ⟨p, xs, rfl, t1, ra⟩ := a.getL hA.sr q
        cases allSome_bl ra h1
        exact ⟨p, bs, rfl, hK ▸ t1.sq, k m H _ (Ext.refl _ _) hA.sr (.bl _)⟩
      · cases hd
  · cases hd
def sumB (ds : List D) : F := optF fun S => match ds with
  | [d] => (match getS S d with
    | .lst xs => (allSome asInt xs).map fun bs => .int bs.sum
    | _ => none)
  | _ => none
theorem bf_sum (hK : X.K = G.K) (hc : X.calm = true) : BF G X (.builtin "sum") sumB := by
  refine ⟨_, cr_sum hc, fun W τ m S σ H Q vs ds r hA => ?_⟩
  obtain ⟨d, hd, k⟩ := hA.fin
  split at hd
  · cases r with
    | cons a r =>
      cases r
      split at hd
      · rename_i q
        obtain ⟨bs, h1, rfl⟩ := Option.map_eq_some_iff.mp hd
        obtain ⟨p, xs, rfl, t1, ra⟩ := a.getL hA.sr q
        cases allSome_int ra h1
        exact ⟨p, bs, rfl, hK ▸ t1.sq, k m H _ (Ext.refl _ _) hA.sr (.int _)⟩
      · cases hd
  · cases hd
/-- the greatest, the least of ints -/
def maxL : Int → List Int → Int
  | a, [] => a
  | a, b :: r => maxL (if b > a then b else a) r
def minL : Int → List Int → Int
  | a, [] => a
  | a, b :: r => minL (if b < a then b else a) r
theorem maxL_ge : ∀ (r : List Int) (a : Int), a ≤ maxL a r ∧ (∀ y ∈ r, y ≤ maxL a r) ∧ (maxL a r = a ∨ maxL a r ∈ r)
  | [], a => ⟨Int.le_refl _, fun y h => (nomatch h), .inl rfl⟩
  | b :: r, a => by
    obtain ⟨h1, h2, h3⟩ := maxL_ge r (if b > a then b else a)
    unfold maxL
    refine ⟨?_, fun y hy => ?_, ?_⟩
    · split at h1 <;> split <;> omega
    · rcases List.mem_cons.mp hy with rfl | hy
      · split at h1 <;> split <;> omega
      · exact h2 y hy
    · rcases h3 with h3 | h3
      · rw [h3]
        split
        · exact .inr List.mem_cons_self
        · exact .inl rfl
      · exact .inr (List.mem_cons_of_mem _ h3)
theorem minL_le : ∀ (r : List Int) (a : Int), minL a r ≤ a ∧ (∀ y ∈ r, minL a r ≤ y) ∧ (minL a r = a ∨ minL a r ∈ r)
  | [], a => ⟨Int.le_refl _, fun y h => (nomatch h), .inl rfl⟩
  | b :: r, a => by
    obtain ⟨h1, h2, h3⟩ := minL_le r (if b < a then b else a)
    unfold minL
    refine ⟨?_, fun y hy => ?_, ?_⟩
    · split at h1 <;> split <;> omega
    · rcases List.mem_cons.mp hy with rfl | hy
      · split at h1 <;> split <;> omega
      · exact h2 y hy
    · rcases h3 with h3 | h3
      · rw [h3]
        split
        · exact .inr List.mem_cons_self
        · exact .inl rfl
      · exact .inr (List.mem_cons_of_mem _ h3)
def maxB (ds : List D) : F := optF fun S => match ds with
  | [.int i, .int j] => some (.int (if j > i then j else i))
  | [d] => (match getS S d with
    | .lst xs => (match allSome asInt xs with
      | some (a :: r) => some (.int (maxL a r))
      | _ => none)
    | _ => none)
  | _ => none
def minB (ds : List D) : F := optF fun S => match ds with
  | [.int i, .int j] => some (.int (if j < i then j else i))
  | [d] => (match getS S d with
    | .lst xs => (match allSome asInt xs with
      | some (a :: r) => some (.int (minL a r))
      | _ => none)
    | _ => none)
  | _ => none
theorem bf_max (hK : X.K = G.K) (hc : X.calm = true) : BF G X (.builtin "max") maxB := by
  refine ⟨_, (call_max2 hc).or (cr_max hc), fun W τ m S σ H Q vs ds r hA => ?_⟩
  obtain ⟨d, hd, k⟩ := hA.fin
  split at hd
  · cases hd
    cases r with
    | cons a r =>
      cases r with
      | cons b r => cases r; cases a; cases b; exact .inl ⟨_, _, rfl, k m H _ (Ext.refl _ _) hA.sr (.int _)⟩
  · cases r with
    | cons a r =>
      cases r
      split at hd
      · rename_i q
        split at hd
        · rename_i z rr h1
          cases hd
          obtain ⟨p, xs, rfl, t1, ra⟩ := a.getL hA.sr q
          cases allSome_int ra h1
          refine .inr ⟨p, z :: rr, rfl, hK ▸ t1.sq, by simp, fun mx hm hle => ?_⟩
          obtain ⟨g1, g2, g3⟩ := maxL_ge rr z
          have e : mx = maxL z rr := by
            have a1 : maxL z rr ∈ z :: rr := by
              rcases g3 with g3 | g3
              · rw [g3]; exact List.mem_cons_self
              · exact List.mem_cons_of_mem _ g3
            have a2 := hle _ a1
            rcases List.mem_cons.mp hm with rfl | hm
            · omega
            · have := g2 mx hm; omega
          rw [e]
          exact k m H _ (Ext.refl _ _) hA.sr (.int _)
        · cases hd
      · cases hd
  · cases hd
theorem bf_min (hK : X.K = G.K) (hc : X.calm = true) : BF G X (.builtin "min") minB := by
  refine ⟨_, (call_min2 hc).or (cr_min hc), fun W τ m S σ H Q vs ds r hA => ?_⟩
  obtain ⟨d, hd, k⟩ := hA.fin
  split at hd
  · cases hd
    cases r with
    | cons a r =>
      cases r with
      | cons b r => cases r; cases a; cases b; exact .inl ⟨_, _, rfl, k m H _ (Ext.refl _ _) hA.sr (.int _)⟩
  · cases r with
    | cons a r =>
      cases r
      split at hd
      · rename_i q
        split at hd
        · rename_i z rr h1
          cases hd
          obtain ⟨p, xs, rfl, t1, ra⟩ := a.getL hA.sr q
          cases allSome_int ra h1
          refine .inr ⟨p, z :: rr, rfl, hK ▸ t1.sq, by simp, fun mx hm hle => ?_⟩
          obtain ⟨g1, g2, g3⟩ := minL_le rr z
          have e : mx = minL z rr := by
            have a1 : minL z rr ∈ z :: rr := by
              rcases g3 with g3 | g3
              · rw [g3]; exact List.mem_cons_self
              · exact List.mem_cons_of_mem _ g3
            have a2 := hle _ a1
            rcases List.mem_cons.mp hm with rfl | hm
            · omega
            · have := g2 mx hm; omega
          rw [e]
          exact k m H _ (Ext.refl _ _) hA.sr (.int _)
        · cases hd
      · cases hd
  · cases hd
end

/-! isinstance -/
def tyD (S : Store) (d : D) : Option String := match getS S d with
  | .non => some "NoneType"
  | .bl _ => some "bool"
  | .int _ => some "int"
  | .str _ => some "str"
  | .tup _ => some "tuple"
  | .lst _ => some "list"
  | _ => none
def isiT (t c : String) : Option Bool :=
  if ["NoneType", "bool", "int", "str", "tuple", "list"].contains t && ["bool", "int", "str", "tuple", "list"].contains c then some (t == c || (t == "bool" && c == "int")) else none
theorem isiT_kit {t c : String} {b : Bool} (h : isiT t c = some b) : kitB t c = some b := by
  unfold isiT at h
  split at h
  · rename_i hc
    cases h
    simp only [Bool.and_eq_true, List.contains_eq_mem, decide_eq_true_eq, List.mem_cons, List.not_mem_nil, or_false] at hc
    obtain ⟨h1, h2⟩ := hc
    rcases h1 with rfl | rfl | rfl | rfl | rfl | rfl <;> rcases h2 with rfl | rfl | rfl | rfl | rfl <;> decide +kernel
  · cases h
def isiB (ds : List D) : F := optF fun S => match ds with
  | [d, .ty c] => (tyD S d).bind fun t => (isiT t c).map fun b => .bl b
  | _ => none
section
variable {G : Gr} {X : Cx}
theorem Rep.tyx {m : Mp} {S : Store} {H : Hp} {v : V} {d : D} {t : String} (sr : SR G m S H) (r : Rep G m H v d) (h : tyD S d = some t) : TyX G.K H v (.type t) := by
  unfold tyD at h
  split at h
  · rename_i q; cases getS_non q; cases r; cases h; exact .base .non
  · rename_i q; cases getS_bl q; cases r; cases h; exact .base (.bl _)
  · rename_i q; cases getS_int q; cases r; cases h; exact .base (.int _)
  · rename_i q; cases getS_str q; cases r; cases h; exact .base (.str _)
  · rename_i q
    cases getS_tup q; cases h
    obtain ⟨p, xs, rfl, t1, ra⟩ := r.getT rfl
    rcases t1 with (t1 | ⟨o, t1⟩) | ⟨o, its, n, h1, h2, _⟩
    · exact .base (.tup t1)
    · exact .fTuple t1
    · exact .kTuple h1 h2
  · rename_i q
    cases h
    obtain ⟨p, xs, rfl, t1, ra⟩ := r.getL sr q
    rcases t1 with (t1 | ⟨o, t1⟩) | ⟨its, n, h1, h2, _⟩
    · exact .base (.lst t1)
    · exact .base (.frz t1)
    · exact .kList h1 rfl
  · cases h
theorem bf_isi (hK : X.K = G.K) : BF G X (.builtin "isinstance") isiB := by
  refine ⟨_, call_isi, fun W τ m S σ H Q vs ds r hA => ?_⟩
  obtain ⟨d, hd, k⟩ := hA.fin
  split at hd
  · obtain ⟨t, h1, h2⟩ := Option.bind_eq_some_iff.mp hd
    obtain ⟨b, h3, rfl⟩ := Option.map_eq_some_iff.mp h2
    cases r with
    | cons a r =>
      cases r with
      | cons c r =>
        cases r; cases c
        exact ⟨_, _, .type t, _, b, rfl, .ty _, hK ▸ a.tyx hA.sr h1, kit_ty (isiT_kit h3), k m H _ (Ext.refl _ _) hA.sr (.bl _)⟩
  · cases hd
end

/-! ### a < b < c -/
section
variable {G : Gr} {X : Cx} {W : WX} {a b c e : Expr} {pos p2 : Pos} {fa fb fc : F}
theorem e_chain {op op' : CmpOp} {g g' : D → D → F} (ho : OpF G X (compareOp op) g) (ho' : OpF G X (compareOp op') g') (ha : PE X a (tE G W fa)) (hb : PE X b (tE G W fb)) (hc : PE X c (tE G W fc))
    (hm : lastMarks [op, op'] [b, c] = false) : PE X (.Compare a [op, op'] [b, c] pos) (tE G W (chF g g' fa fb fc)) := by
  obtain ⟨r, hr, k⟩ := ho
  obtain ⟨r', hr', k'⟩ := ho'
  refine PE.imp (pe_chain hr hr' ha hb hc hm) fun σ H Q ⟨τ, m, S, h⟩ => ?_
  refine ⟨τ, m, S, h.seq fun m1 S1 H1 v d e1 sr1 r1 h1 => ⟨τ, m1, S1, h1.seq fun m2 S2 H2 w d' e2 sr2 r2 h2 => ?_⟩⟩
  refine k W τ m2 S2 σ H2 _ v w d d' (r1.mono sr1 e2) r2 (h2.seq fun m3 S3 H3 z dz e3 sr3 r3 h3 => ?_)
  obtain ⟨b, hb, h4⟩ := h3.opt
  split at hb
  · cases hb
    cases r3
    refine ⟨b, rfl, ?_⟩
    cases b with
    | true =>
      rw [if_pos rfl] at h4 ⊢
      exact ⟨τ, m3, S3, h4.seq fun m4 S4 H4 u du e4 sr4 r4 h5 => k' W τ m4 S4 σ H4 Q w u d' du ((r2.mono sr2 e3).mono sr3 e4) r4 h5⟩
    | false =>
      rw [if_neg Bool.false_ne_true] at h4 ⊢
      exact h4.ret m3 H3 _ (Ext.refl _ _) sr3 (.bl _)
  · cases hb
/-- its answer as a test -/
theorem t_chain {op op' : CmpOp} {g g' : D → D → F} (ho : OpF G X (compareOp op) g) (ho' : OpF G X (compareOp op') g') (hg' : ∀ x y τ S Q E, g' x y τ S Q E → g' x y τ S (fun d S' => ∃ b, d = .bl b ∧ Q d S') E) (ha : PE X a (tE G W fa)) (hb : PE X b (tE G W fb)) (hc : PE X c (tE G W fc))
    (hm : lastMarks [op, op'] [b, c] = false) : PT X (.Compare a [op, op'] [b, c] pos) (tT G W (chT g g' fa fb fc)) := by
  obtain ⟨r, hr, k⟩ := ho
  obtain ⟨r', hr', k'⟩ := ho'
  refine PT.imp (pt_chain hr hr' ha hb hc hm) fun σ H Q ⟨τ, m, S, h⟩ => ?_
  refine ⟨τ, m, S, h.seq fun m1 S1 H1 v d e1 sr1 r1 h1 => ⟨τ, m1, S1, h1.seq fun m2 S2 H2 w d' e2 sr2 r2 h2 => ?_⟩⟩
  refine k W τ m2 S2 σ H2 _ v w d d' (r1.mono sr1 e2) r2 (h2.seq fun m3 S3 H3 z dz e3 sr3 r3 h3 => ?_)
  obtain ⟨b, hb, h4⟩ := h3.opt
  split at hb
  · cases hb
    cases r3
    refine ⟨b, rfl, ?_⟩
    cases b with
    | true =>
      rw [if_pos rfl] at h4 ⊢
      refine ⟨τ, m3, S3, At.seq (ρ' := rB) h4 fun m4 S4 H4 u du e4 sr4 r4 h5 => k' W τ m4 S4 σ H4 _ w u d' du ((r2.mono sr2 e3).mono sr3 e4) r4 ?_⟩
      obtain ⟨QD, QE, sr, er, hf, kk, px⟩ := h5
      refine ⟨_, QE, sr, er, hg' _ _ _ _ _ _ hf, fun m5 S5 H5 u5 x5 e5 sr5 r5 q5 => ?_, px⟩
      obtain ⟨b, rfl, q5⟩ := q5
      cases r5
      exact ⟨b, rfl, kk m5 S5 H5 b b e5 sr5 rfl q5⟩
    | false =>
      rw [if_neg Bool.false_ne_true] at h4 ⊢
      obtain ⟨QD, QE, sr, er, hf, kk, px⟩ := h4
      exact ⟨false, rfl, kk m3 S3 H3 false false (Ext.refl _ _) sr3 rfl hf⟩
  · cases hb
end
end Dx

set_option Elab.async false
set_option linter.all false
set_option maxRecDepth 100000
set_option maxHeartbeats 4000000
/-! DX, part 7: statements. -/
namespace Dx
open PySem PySem.Spec PyProof.Rows L2

structure DEnds where
  nx : Env → Store → Prop
  rt : D → Store → Prop
  bk : Env → Store → Prop := fun _ _ => False
  ct : Env → Store → Prop := fun _ _ => False
  ex : Ex → Env → Store → Prop := fun _ _ _ => False
abbrev FS := DEnds → Env → Store → Prop

section
variable (G : Gr)
def PNx (m : Mp) (H : Hp) (P : Env → Store → Prop) (Q : L2.St → Hp → Prop) : Prop :=
  ∀ (m' : Mp) (S' : Store) (H' : Hp) (σ' : L2.St) (τ' : Env), Ext m H m' H' → SR G m' S' H' → EnvR G m' H' σ' τ' → P τ' S' → Q σ' H'
structure PEnds (W : WX) (m : Mp) (H : Hp) (E : DEnds) (D : Ends) : Prop where
  nx : PNx G m H E.nx D.nx
  rt : PostG G (rV G) m H E.rt D.rt
  bk : PNx G m H E.bk D.bk
  ct : PNx G m H E.ct D.ct
  ex : ∀ (m' : Mp) (S' : Store) (H' : Hp) (σ' : L2.St) (τ' : Env) (cls : Value) (dd : Option Addr) (x : Ex), Ext m H m' H' → SR G m' S' H' → EnvR G m' H' σ' τ' → RepX G m' H' cls dd x → E.ex x τ' S' → W cls dd σ' H'
def AtS (W : WX) (f : FS) (D : Ends) (τ : Env) (m : Mp) (S : Store) (σ : L2.St) (H : Hp) : Prop :=
  ∃ E : DEnds, SR G m S H ∧ EnvR G m H σ τ ∧ f E τ S ∧ PEnds G W m H E D
def tS (W : WX) (f : FS) : TS := fun D σ H => ∃ τ m S, AtS G W f D τ m S σ H
end
section
variable {G : Gr} {W : WX} {m m' : Mp} {S S' : Store} {H H' : Hp} {σ σ' : L2.St} {τ τ' : Env} {E E' : DEnds} {D D' : Ends}
theorem PNx.mono {P : Env → Store → Prop} {Q : L2.St → Hp → Prop} (p : PNx G m H P Q) (e : Ext m H m' H') : PNx G m' H' P Q := fun m2 S2 H2 s t e2 sr er q => p m2 S2 H2 s t (e.trans e2) sr er q
theorem PEnds.mono (p : PEnds G W m H E D) (e : Ext m H m' H') : PEnds G W m' H' E D :=
  ⟨p.nx.mono e, p.rt.mono e, p.bk.mono e, p.ct.mono e, fun m2 S2 H2 s t c d x e2 sr er r q => p.ex m2 S2 H2 s t c d x (e.trans e2) sr er r q⟩
/-- the wish of an expression within a statement -/
theorem PEnds.px (p : PEnds G W m H E D) (er : EnvR G m H σ τ) (sr : SR G m S H) : PostX G m H (fun x S' => E.ex x τ S') σ W :=
  fun m' S' H' cls dd x e sr' r q => p.ex m' S' H' σ τ cls dd x e sr' (er.mono sr e) r q
/-- an expression ahead of a statement's end -/
theorem AtS.expr {α β : Type} {ρ : Rl α β} {f : FG β} {g : β → DEnds → Env → Store → Prop} {R : α → Hp → Prop} (h : AtS G W (fun E τ S => f τ S (fun d S' => g d E τ S') (fun x S' => E.ex x τ S')) D τ m S σ H)
    (k : ∀ (m1 : Mp) (S1 : Store) (H1 : Hp) (v : α) (d : β), Ext m H m1 H1 → SR G m1 S1 H1 → ρ m1 H1 v d → AtS G W (g d) D τ m1 S1 σ H1 → R v H1) : At G ρ W f τ m S σ H R := by
  obtain ⟨E, sr, er, hf, p⟩ := h
  refine ⟨fun d S' => g d E τ S', fun x S' => E.ex x τ S', sr, er, hf, fun m1 S1 H1 v d e sr1 r q => ?_, p.px er sr⟩
  exact k m1 S1 H1 v d e sr1 r ⟨E, sr1, er.mono sr e, q, p.mono e⟩
end

def nilS : FS := fun E τ S => E.nx τ S
def seqS (f g : FS) : FS := fun E τ S => f { E with nx := fun τ' S' => g E τ' S' } τ S
def setS (i : Nat) (f : F) : FS := fun E τ S => f τ S (fun d S' => E.nx (τ.set i (some d)) S') (fun x S' => E.ex x τ S')
def exprS (f : F) : FS := fun E τ S => f τ S (fun _ S' => E.nx τ S') (fun x S' => E.ex x τ S')
def retS (f : F) : FS := fun E τ S => f τ S (fun d S' => E.rt d S') (fun x S' => E.ex x τ S')
def retN : FS := fun E _ S => E.rt .non S
def brkS : FS := fun E τ S => E.bk τ S
def cntS : FS := fun E τ S => E.ct τ S
def ifS (t : FG Bool) (f g : FS) : FS := fun E τ S => t τ S (fun b S' => if b = true then f E τ S' else g E τ S') (fun x S' => E.ex x τ S')
def whileS (t : FG Bool) (body : FS) : FS := fun E τ S => ∃ I : Nat → Env → Store → Prop, (∃ n, I n τ S) ∧ ∀ n τ S, I n τ S →
  t τ S (fun b S' => if b = true then body { E with nx := fun τ' S'' => ∃ n', n' < n ∧ I n' τ' S'', ct := fun τ' S'' => ∃ n', n' < n ∧ I n' τ' S'', bk := E.nx } τ S' else E.nx τ S') (fun x S' => E.ex x τ S')

section
variable {G : Gr} {X : Cx} {W : WX} {st : Stmt} {rest : List Stmt} {f g : FS} {fe fo fi : F} {t : FG Bool} {e o i : Expr} {pos pos' : Pos}
theorem ss_nil : PSs X [] (tS G W nilS) := PSs.imp pss_nil fun D σ H ⟨τ, m, S, E, sr, er, hf, p⟩ => p.nx m S H σ τ (Ext.refl _ _) sr er hf
theorem ss_cons (h1 : PS X st (tS G W f)) (h2 : PSs X rest (tS G W g)) : PSs X (st :: rest) (tS G W (seqS f g)) :=
  PSs.imp (pss_cons h1 h2) fun D σ H ⟨τ, m, S, E, sr, er, hf, p⟩ => ⟨τ, m, S, _, sr, er, hf, ⟨fun m1 S1 H1 s1 t1 e1 sr1 er1 q => ⟨t1, m1, S1, E, sr1, er1, q, p.mono e1⟩, p.rt, p.bk, p.ct, p.ex⟩⟩
theorem ss_one (h1 : PS X st (tS G W f)) : PSs X [st] (tS G W f) := pss_one h1
theorem s_pass : PS X (.Pass pos) (tS G W nilS) := PS.imp ps_pass fun D σ H ⟨τ, m, S, E, sr, er, hf, p⟩ => p.nx m S H σ τ (Ext.refl _ _) sr er hf
theorem s_brk : PS X (.Break pos) (tS G W brkS) := PS.imp ps_break fun D σ H ⟨τ, m, S, E, sr, er, hf, p⟩ => p.bk m S H σ τ (Ext.refl _ _) sr er hf
theorem s_cnt : PS X (.Continue pos) (tS G W cntS) := PS.imp ps_continue fun D σ H ⟨τ, m, S, E, sr, er, hf, p⟩ => p.ct m S H σ τ (Ext.refl _ _) sr er hf
theorem s_ret (he : PE X e (tE G W fe)) : PS X (.Return (some e) pos) (tS G W (retS fe)) :=
  PS.imp (ps_ret he) fun D σ H ⟨τ, m, S, h⟩ => ⟨τ, m, S, AtS.expr (g := fun d E τ S => E.rt d S) h fun m1 S1 H1 v d e1 sr1 r1 ⟨E, sr, er, hf, p⟩ => p.rt m1 S1 H1 v d (Ext.refl _ _) sr r1 hf⟩
theorem s_retN : PS X (.Return none pos) (tS G W retN) := PS.imp ps_retN fun D σ H ⟨τ, m, S, E, sr, er, hf, p⟩ => p.rt m S H .non .non (Ext.refl _ _) sr .non hf
theorem s_expr (he : PE X e (tE G W fe)) (hs : swapsWith e none pos.line X.env = pure false) : PS X (.Expr e pos) (tS G W (exprS fe)) :=
  PS.imp (ps_expr he hs) fun D σ H ⟨τ, m, S, h⟩ => ⟨τ, m, S, AtS.expr (g := fun d E τ S => E.nx τ S) h fun m1 S1 H1 v d e1 sr1 r1 ⟨E, sr, er, hf, p⟩ => p.nx m1 S1 H1 σ τ (Ext.refl _ _) sr er hf⟩
theorem s_set {n : Nat} {x : Str} (hN : X.N.Nodup) (hi : X.N[n]? = some x) (hx : Loc X.env.scope x) (he : PE X e (tE G W fe)) (hs : swapsWith e (some (.Name x pos')) pos.line X.env = pure false) (hf : X.fn x = true ∨ X.env.scope.names.lookup x = some .local) :
    PS X (.Assign [.Name x pos'] e pos) (tS G W (setS n fe)) :=
  PS.imp (ps_set hN hi hx he hs hf) fun D σ H ⟨τ, m, S, h⟩ => ⟨τ, m, S, AtS.expr (g := fun d E τ S => E.nx (τ.set n (some d)) S) h fun m1 S1 H1 v d e1 sr1 r1 ⟨E, sr, er, hf, p⟩ => p.nx m1 S1 H1 _ _ (Ext.refl _ _) sr (er.set r1 n) hf⟩
theorem s_if {c : Expr} {a b : List Stmt} (hc : PT X c (tT G W t)) (ha : PSs X a (tS G W f)) (hb : PSs X b (tS G W g)) : PS X (.If c a b pos) (tS G W (ifS t f g)) :=
  PS.imp (ps_if hc ha hb) fun D σ H ⟨τ, m, S, h⟩ => ⟨τ, m, S, AtS.expr (ρ := rB) (g := fun b E τ S => if b = true then f E τ S else g E τ S) h fun m1 S1 H1 v d e1 sr1 r1 ⟨E, sr, er, hf, p⟩ => by
    cases (show v = d from r1)
    cases v with
    | true => rw [if_pos rfl] at hf ⊢; exact ⟨τ, m1, S1, E, sr, er, hf, p⟩
    | false => rw [if_neg Bool.false_ne_true] at hf ⊢; exact ⟨τ, m1, S1, E, sr, er, hf, p⟩⟩
theorem s_while {c : Expr} {body : List Stmt} (hp : PassesOwn (model X.prog X.w) X.A X.env X.xe) (hc : PT X c (tT G W t)) (hb : PSs X body (tS G W f)) : PS X (.While c body [] pos) (tS G W (whileS t f)) :=
  PS.imp (ps_while hp hc hb) fun D σ H ⟨τ, m, S, E, sr, er, ⟨I, ⟨n0, i0⟩, turn⟩, p⟩ => by
    refine ⟨fun n σ' H' => ∃ τ' m' S', Ext m H m' H' ∧ SR G m' S' H' ∧ EnvR G m' H' σ' τ' ∧ I n τ' S', ⟨n0, τ, m, S, Ext.refl _ _, sr, er, i0⟩, ?_⟩
    rintro n σ1 H1 ⟨τ1, m1, S1, e1, sr1, er1, i1⟩
    have p1 := p.mono e1
    refine ⟨τ1, m1, S1, _, fun x S' => E.ex x τ1 S', sr1, er1, turn n τ1 S1 i1, fun m2 S2 H2 b b' e2 sr2 r2 q2 => ?_, p1.px er1 sr1⟩
    cases (show b = b' from r2)
    cases b with
    | true =>
      rw [if_pos rfl] at q2 ⊢
      refine ⟨fun σ' H' => ∃ n' τ' m' S', n' < n ∧ Ext m H m' H' ∧ SR G m' S' H' ∧ EnvR G m' H' σ' τ' ∧ I n' τ' S', fun σ' H' ⟨n', τ', m', S', hn, a, b, c, d⟩ => ⟨n', hn, τ', m', S', a, b, c, d⟩, τ1, m2, S2, _, sr2, er1.mono sr1 e2, q2, ?_⟩
      have e12 := e1.trans e2
      have p2 := p.mono e12
      exact ⟨fun m3 S3 H3 s t e3 sr3 er3 ⟨n', hn, q⟩ => ⟨n', t, m3, S3, hn, e12.trans e3, sr3, er3, q⟩, p2.rt, p2.nx, fun m3 S3 H3 s t e3 sr3 er3 ⟨n', hn, q⟩ => ⟨n', t, m3, S3, hn, e12.trans e3, sr3, er3, q⟩, p2.ex⟩
    | false =>
      rw [if_neg Bool.false_ne_true] at q2 ⊢
      exact p1.nx m2 S2 H2 σ1 τ1 e2 sr2 (er1.mono sr1 e2) q2
end

/-! ### targets -/
inductive Tg where
  | name (i : Nat)
  | tup (ts : List Tg)
  deriving Inhabited
mutual
def bindT : Tg → D → Env → Option Env
  | .name i, d, τ => some (τ.set i (some d))
  | .tup ts, .tup ds, τ => bindTs ts ds τ
  | .tup _, _, _ => none
def bindTs : List Tg → List D → Env → Option Env
  | [], [], τ => some τ
  | t :: ts, d :: ds, τ => (bindT t d τ).bind fun τ' => bindTs ts ds τ'
  | _, _, _ => none
end
mutual
def slotsT : Tg → List Nat
  | .name i => [i]
  | .tup ts => slotsTs ts
def slotsTs : List Tg → List Nat
  | [] => []
  | t :: ts => slotsT t ++ slotsTs ts
end
/-- only these slots are another -/
def SameBut (l : List Nat) (σ σ' : L2.St) : Prop := σ'.length = σ.length ∧ ∀ i, i ∉ l → σ'[i]? = σ[i]?
theorem SameBut.trans {l l' : List Nat} {σ σ1 σ2 : L2.St} (a : SameBut l σ σ1) (b : SameBut l' σ1 σ2) : SameBut (l ++ l') σ σ2 :=
  ⟨b.1.trans a.1, fun i h => by
    simp only [List.mem_append, not_or] at h
    exact (b.2 i h.2).trans (a.2 i h.1)⟩
/-- a target's reading, by plain data -/
def GOk (G : Gr) (X : Cx) (target : Expr) (t : Tg) : Prop :=
  ∃ g : TG, PG X target g ∧ ∀ (m : Mp) (S : Store) (H : Hp) (σ : L2.St) (τ τ' : Env) (v : V) (d : D) (Q : L2.St → Hp → Prop), SR G m S H → EnvR G m H σ τ → Rep G m H v d → bindT t d τ = some τ' → (∀ σ', EnvR G m H σ' τ' → SameBut (slotsT t) σ σ' → Q σ' H) → g v σ H Q
def GsOk (G : Gr) (X : Cx) (es : List Expr) (ts : List Tg) : Prop :=
  ∃ g : TGs, PGs X es g ∧ ∀ (m : Mp) (S : Store) (H : Hp) (σ : L2.St) (τ τ' : Env) (vs : List V) (ds : List D) (Q : L2.St → Hp → Prop), SR G m S H → EnvR G m H σ τ → RepAll G m H vs ds → bindTs ts ds τ = some τ' → (∀ σ', EnvR G m H σ' τ' → SameBut (slotsTs ts) σ σ' → Q σ' H) → g vs σ H Q
section
variable {G : Gr} {X : Cx} {pos : Pos}
theorem g_name {i : Nat} {x : Str} (hN : X.N.Nodup) (hi : X.N[i]? = some x) (hx : Loc X.env.scope x) (hf : X.fn x = true ∨ X.env.scope.names.lookup x = some .local) : GOk G X (.Name x pos) (.name i) :=
  ⟨gName i, pg_name hN hi hx hf, fun m S H σ τ τ' v d Q sr er r h k => by
    simp only [bindT] at h
    cases h
    exact k _ (er.set r i) ⟨by simp, fun j hj => List.getElem?_set_ne (fun e => hj (by simp [slotsT, e]))⟩⟩
theorem gs_nil : GsOk G X [] [] :=
  ⟨gNil, pgs_nil, fun m S H σ τ τ' vs ds Q sr er r h k => by
    cases r with
    | nil => simp only [bindTs] at h; cases h; exact ⟨rfl, k σ er ⟨rfl, fun _ _ => rfl⟩⟩
    | cons a r => simp only [bindTs] at h; cases h⟩
theorem gs_cons {e : Expr} {es : List Expr} {t : Tg} {ts : List Tg} (h1 : GOk G X e t) (h2 : GsOk G X es ts) (hs : (assignEach (e :: es) X.env).map (·.2) = assign e X.env :: (assignEach es X.env).map (·.2)) : GsOk G X (e :: es) (t :: ts) := by
  obtain ⟨g1, p1, k1⟩ := h1
  obtain ⟨g2, p2, k2⟩ := h2
  refine ⟨gCons g1 g2, pgs_cons p1 p2 hs, fun m S H σ τ τ' vs ds Q sr er r h k => ?_⟩
  cases r with
  | nil => simp only [bindTs] at h; cases h
  | cons a r =>
    simp only [bindTs] at h
    obtain ⟨τ1, h3, h4⟩ := Option.bind_eq_some_iff.mp h
    exact ⟨_, _, rfl, k1 m S H σ τ τ1 _ _ _ sr er a h3 fun σ1 er1 s1 => k2 m S H σ1 τ1 τ' _ _ Q sr er1 r h4 fun σ2 er2 s2 => k σ2 er2 (s1.trans s2)⟩
theorem bindTs_len : ∀ (ts : List Tg) (ds : List D) (τ τ' : Env), bindTs ts ds τ = some τ' → ts.length = ds.length := by
  intro ts
  induction ts with
  | nil => intro ds τ τ' h; cases ds <;> simp [bindTs] at h ⊢
  | cons t ts ih =>
    intro ds τ τ' h
    cases ds with
    | nil => simp [bindTs] at h
    | cons d ds =>
      simp only [bindTs] at h
      obtain ⟨τ1, h3, h4⟩ := Option.bind_eq_some_iff.mp h
      simp [ih ds τ1 τ' h4]
theorem g_tup {es : List Expr} {kk : Nat} {ts : List Tg} {n : Nat} (hK : X.K = G.K) (hc : X.calm = true) (h : GsOk G X es ts) (hl : ts.length = n) (hn : (assignEach es X.env).length = n) (hst : (assignEach es X.env).findIdx? (·.1) = none) : GOk G X (.Tuple es kk pos) (.tup ts) := by
  obtain ⟨g, p, k⟩ := h
  refine ⟨gTup X.K n g, pg_tup hc p hn hst, fun m S H σ τ τ' v d Q sr er r h kk => ?_⟩
  cases d with
  | tup ds =>
    simp only [bindT] at h
    obtain ⟨a, xs, rfl, t1, ra⟩ := r.getT rfl
    refine ⟨a, xs, rfl, hK ▸ t1, ?_, k m S H σ τ τ' xs ds Q sr er ra h fun σ' e s => kk σ' e (by simpa [slotsT] using s)⟩
    rw [ra.length, ← bindTs_len ts ds τ τ' h, hl]
  | _ => simp [bindT] at h
end
def asgS (t : Tg) (f : F) : FS := fun E τ S => f τ S (fun d S' => match bindT t d τ with | some τ' => E.nx τ' S' | none => False) (fun x S' => E.ex x τ S')
def parS (i j : Nat) (f : FG (List D)) : FS := fun E τ S => f τ S (fun ds S' => match ds with | [a, b] => E.nx ((τ.set i (some a)).set j (some b)) S' | _ => False) (fun x S' => E.ex x τ S')
def par3S (i j l : Nat) (f : FG (List D)) : FS := fun E τ S => f τ S (fun ds S' => match ds with | [a, b, c] => E.nx (((τ.set i (some a)).set j (some b)).set l (some c)) S' | _ => False) (fun x S' => E.ex x τ S')
/-- o[i] = e, a list of the store -/
def subS (fe fo fi : F) : FS := fun E τ S => bindF fe (fun d => bindF fo fun o => bindF fi fun i => fun τ S Q _ => match o, i with
  | .obj n, .int k => (match S[n]? with
    | some (.lst ds) => (match ixN ds.length k with
      | some j => Q () (S.set n (.lst (ds.set j d)))
      | none => False)
    | _ => False)
  | _, _ => False) τ S (fun _ S' => E.nx τ S') (fun x S' => E.ex x τ S')
theorem live_of {G : Gr} {m : Mp} {S : Store} {H : Hp} {n : Nat} {v : V} {ds : List D} (sr : SR G m S H) (r : Rep G m H v (.obj n)) (h : S[n]? = some (.lst ds)) : ∃ a xs, v = .ref a ∧ m.sl[n]? = some (some a) ∧ H a = some (.lst xs) ∧ RepAll G m H xs ds := by
  cases r with
  | @obj _ a h1 h2 =>
    cases q : m.sl[n]? with
    | none => rw [List.getElem?_eq_none_iff] at q; omega
    | some o =>
      cases o with
      | none =>
        have z := sr.dead n q
        rw [h] at z; cases z
      | some b =>
        have e := h2 b q
        subst e
        obtain ⟨xs, hx, rx⟩ := sr.at_ n b _ q h
        exact ⟨b, xs, rfl, rfl, hx, rx⟩
section
variable {G : Gr} {X : Cx} {W : WX} {fe fo fi : F} {fa : FG (List D)} {e o i tg : Expr} {pos pos' : Pos} {t : Tg}
theorem s_asg (he : PE X e (tE G W fe)) (hg : GOk G X tg t) (hs : swapsWithSole [tg] e pos.line X.env = pure false) (hw : swappedStores [tg] e X.env = pure none) (h1 : (assignEach [tg] X.env).map (·.2) = [assign tg X.env]) : PS X (.Assign [tg] e pos) (tS G W (asgS t fe)) := by
  obtain ⟨g, p, k⟩ := hg
  refine PS.imp (ps_asg he p hs hw h1) fun D σ H ⟨τ, m, S, h⟩ => ⟨τ, m, S, AtS.expr (g := fun d E τ S => match bindT t d τ with | some τ' => E.nx τ' S | none => False) h fun m1 S1 H1 v d e1 sr1 r1 ⟨E, sr, er, hf, p⟩ => ?_⟩
  dsimp only at hf
  cases q : bindT t d τ with
  | none => rw [q] at hf; exact hf.elim
  | some τ' => rw [q] at hf; exact k m1 S1 H1 σ τ τ' v d D.nx sr er r1 q fun σ' er' _ => p.nx m1 S1 H1 σ' τ' (Ext.refl _ _) sr er' hf
theorem s_par {i j : Nat} {x y : Str} {a b : Expr} {px py pt : Pos} {kt k2 pt2} (hc : X.calm = true) (hN : X.N.Nodup) (hi : X.N[i]? = some x) (hj : X.N[j]? = some y) (hij : i ≠ j)
    (hx : X.env.scope.names.lookup x = some .local) (hy : X.env.scope.names.lookup y = some .local) (ha : PA X [a, b] (tA G W fa))
    (hw : swappedStores [.Tuple [.Name x px, .Name y py] kt pt] (.Tuple [a, b] k2 pt2) X.env = pure (some [x, y]))
    (hs : swapsWithSole [.Tuple [.Name x px, .Name y py] kt pt] (.Tuple [a, b] k2 pt2) pos.line X.env = pure false) :
    PS X (.Assign [.Tuple [.Name x px, .Name y py] kt pt] (.Tuple [a, b] k2 pt2) pos) (tS G W (parS i j fa)) :=
  PS.imp (ps_par hc hN hi hj hij hx hy ha hw hs) fun D σ H ⟨τ, m, S, h⟩ => ⟨τ, m, S, AtS.expr (ρ := rA G) (g := fun ds E τ S => match ds with | [a, b] => E.nx ((τ.set i (some a)).set j (some b)) S | _ => False) h fun m1 S1 H1 vs ds e1 sr1 r1 ⟨E, sr, er, hf, p⟩ => by
    dsimp only at hf
    split at hf
    · cases r1 with
      | cons r1 rr =>
        cases rr with
        | cons r2 rr =>
          cases rr
          exact ⟨_, _, rfl, p.nx m1 S1 H1 _ _ (Ext.refl _ _) sr ((er.set r1 i).set r2 j) hf⟩
    · exact hf.elim⟩
theorem s_par3 {i j l : Nat} {x y z : Str} {a b c : Expr} {px py pz pt : Pos} {kt k2 pt2} (hc : X.calm = true) (hN : X.N.Nodup) (hi : X.N[i]? = some x) (hj : X.N[j]? = some y) (hl : X.N[l]? = some z) (hij : i ≠ j) (hil : i ≠ l) (hjl : j ≠ l)
    (hx : X.env.scope.names.lookup x = some .local) (hy : X.env.scope.names.lookup y = some .local) (hz : X.env.scope.names.lookup z = some .local) (ha : PA X [a, b, c] (tA G W fa))
    (hw : swappedStores [.Tuple [.Name x px, .Name y py, .Name z pz] kt pt] (.Tuple [a, b, c] k2 pt2) X.env = pure (some [x, y, z]))
    (hs : swapsWithSole [.Tuple [.Name x px, .Name y py, .Name z pz] kt pt] (.Tuple [a, b, c] k2 pt2) pos.line X.env = pure false) :
    PS X (.Assign [.Tuple [.Name x px, .Name y py, .Name z pz] kt pt] (.Tuple [a, b, c] k2 pt2) pos) (tS G W (par3S i j l fa)) :=
  PS.imp (ps_par3 hc hN hi hj hl hij hil hjl hx hy hz ha hw hs) fun D σ H ⟨τ, m, S, h⟩ => ⟨τ, m, S, AtS.expr (ρ := rA G) (g := fun ds E τ S => match ds with | [a, b, c] => E.nx (((τ.set i (some a)).set j (some b)).set l (some c)) S | _ => False) h fun m1 S1 H1 vs ds e1 sr1 r1 ⟨E, sr, er, hf, p⟩ => by
    dsimp only at hf
    split at hf
    · cases r1 with
      | cons r1 rr =>
        cases rr with
        | cons r2 rr =>
          cases rr with
          | cons r3 rr =>
            cases rr
            exact ⟨_, _, _, rfl, p.nx m1 S1 H1 _ _ (Ext.refl _ _) sr (((er.set r1 i).set r2 j).set r3 l) hf⟩
    · exact hf.elim⟩
theorem s_sub {sp : Pos} (he : PE X e (tE G W fe)) (ho : PE X o (tE G W fo)) (hi : PE X i (tE G W fi))
    (ha : ∀ v, assign (.Subscript o i sp) X.env v = (do
      let ov ← holding [v] (eval o X.env)
      let iv ← holding [v, ov] (eval i X.env)
      standAt sp
      holding [v, ov, iv] (setItem ov iv v)
      release [v, ov, iv] []))
    (hs : swapsWithSole [.Subscript o i sp] e pos.line X.env = pure false) (hw : swappedStores [.Subscript o i sp] e X.env = pure none) (h1 : (assignEach [.Subscript o i sp] X.env).map (·.2) = [assign (.Subscript o i sp) X.env]) :
    PS X (.Assign [.Subscript o i sp] e pos) (tS G W (subS fe fo fi)) := by
  refine PS.imp (ps_asg he (pg_sub ho hi set_list ha) hs hw h1) fun D σ H ⟨τ, m, S, E, sr, er, hf, p⟩ => ?_
  have hA : At G (fun _ _ (_ : Unit) (_ : Unit) => True) W (bindF fe (fun d => bindF fo fun o => bindF fi fun i => fun τ S Q _ => match o, i with
    | .obj n, .int k => (match S[n]? with
      | some (.lst ds) => (match ixN ds.length k with
        | some j => Q () (S.set n (.lst (ds.set j d)))
        | none => False)
      | _ => False)
    | _, _ => False)) τ m S σ H (fun _ H' => D.nx σ H') :=
    ⟨fun _ S' => E.nx τ S', fun x S' => E.ex x τ S', sr, er, hf, fun m1 S1 H1 _ _ e1 sr1 _ q => p.nx m1 S1 H1 σ τ e1 sr1 (er.mono sr e1) q, p.px er sr⟩
  refine ⟨τ, m, S, hA.seq fun m1 S1 H1 v d e1 sr1 r1 h1 => ⟨τ, m1, S1, h1.seq fun m2 S2 H2 ov od e2 sr2 r2 h2 => ⟨τ, m2, S2, h2.seq fun m3 S3 H3 iv id e3 sr3 r3 h3 => ?_⟩⟩⟩
  obtain ⟨QD, QE, sr, er, hf, k, px⟩ := h3
  split at hf
  · split at hf
    · rename_i ds hs
      split at hf
      · rename_i j hj
        cases r3
        obtain ⟨a, xs, rfl, hm, hH, rx⟩ := live_of sr (r2.mono sr2 e3) hs
        exact ⟨a, xs, _, j, rfl, rfl, hH, by rw [rx.length]; exact hj, k m3 _ _ () () (Ext.write sr hm) (sr.write hm (rx.set ((r1.mono sr1 e2).mono sr2 e3) j)) trivial hf⟩
      · exact hf.elim
    · exact hf.elim
  · exact hf.elim
end
end Dx

set_option Elab.async false
set_option linter.all false
set_option maxRecDepth 100000
set_option maxHeartbeats 4000000
/-! DX, part 8: what is walked, for, comprehensions. -/
namespace Dx
open PySem PySem.Spec PyProof.Rows L2

/-- what a loop walks: its items, and what must stand at each turn -/
abbrev Its' := List D × (Store → Prop)
structure JOk (G : Gr) (J : It) (ds : List D) (chk : Store → Prop) (Src : Mp → Store → Hp → Prop) : Prop where
  mono : ∀ (m : Mp) (S : Store) (H : Hp) (m' : Mp) (S' : Store) (H' : Hp), SR G m S H → SR G m' S' H' → Ext0 m H m' H' → Src m S H → Src m' S' H'
  go : ∀ (i : Nat) (d : D) (m : Mp) (S : Store) (H : Hp), SR G m S H → Src m S H → chk S → ds[i]? = some d → J.go i H ∧ ∀ v H', J.yld i H v H' → Ext m H m H' ∧ SR G m S H' ∧ Rep G m H' v d
  stop : ∀ (i : Nat) (m : Mp) (S : Store) (H : Hp), SR G m S H → Src m S H → chk S → ds.length ≤ i → J.stop i H
section
variable (G : Gr)
abbrev rI : Rl It Its' := fun m H J p => ∃ Src, JOk G J p.1 p.2 Src ∧ ∀ S, SR G m S H → Src m S H
def tI (W : WX) (f : FG Its') : TI := fun σ H R => ∃ τ m S, At G (rI G) W f τ m S σ H R
end
theorem PI.imp {X : Cx} {tg e : Expr} {t t' : TI} (h : PI X tg e t) (k : ∀ σ H R, t' σ H R → t σ H R) : PI X tg e t' := ⟨fun pins s σ H R I q => h.run pins s σ H R I (k σ H R q)⟩

/-! ### lists, tuples, texts -/
section
variable {X : Cx} {tg : Expr}
def iAny (K : PySem.W.Frag) (tl : TE) : TI := fun σ H R => tl σ H fun x H1 => (∃ a, x = .ref a ∧ (∃ xs, SqL K H1 a xs) ∧ R (Itl K a) H1) ∨ (∃ a, x = .ref a ∧ (∃ xs, SqT K H1 a xs) ∧ R (Itt K a) H1) ∨ ∃ z, x = .str z ∧ R (Its z) H1
theorem pi_any {l : Expr} {tl : TE} (hl : PE X l tl) : PI X tg l (iAny X.K tl) := by
  refine ⟨fun pins s σ H R I h => ?_⟩
  refine thn (hl.run pins s σ H _ I h) fun v s1 ⟨x, H1, I1, r1, q1⟩ => ?_
  rcases q1 with ⟨a, e, ⟨xs, hq⟩, q⟩ | ⟨a, e, ⟨xs, hq⟩, q⟩ | ⟨x, ex, q⟩
  · subst e
    cases r1
    obtain ⟨its, rv, p, hz⟩ := I1.list hq
    refine wpAny_pyIter_list p.isList ?_
    refine ⟨s1.heap.objs.size, [s1.heap.objs.size], _, _, H1, rfl, I1.kept (t' := s1.toks) fun b o e => Heap.get?_push_of_some _ e, turn_list a _, ⟨_, Heap.get?_push_size _ rfl, rfl, rfl⟩, fun b hb => ?_, q⟩
    have e : b = s1.heap.objs.size := by simpa using hb
    subst e
    exact I1.fpOk (Nat.le_refl _) (I1.hok.fresh (Nat.le_refl _))
  · subst e
    cases r1
    obtain ⟨its, rv, p, hz⟩ := I1.tuple hq
    refine wpAny_pyIter_tuple (show s1.heap.IsTuple a its.toArray from p) ?_
    refine ⟨s1.heap.objs.size, [s1.heap.objs.size], _, _, H1, rfl, I1.kept (t' := s1.toks) fun b o e => Heap.get?_push_of_some _ e, turn_tuple a _, ⟨_, Heap.get?_push_size _ rfl, rfl, rfl⟩, fun b hb => ?_, q⟩
    have e : b = s1.heap.objs.size := by simpa using hb
    subst e
    exact I1.fpOk (Nat.le_refl _) (I1.hok.fresh (Nat.le_refl _))
  · subst ex
    obtain ⟨t, rfl⟩ := r1
    cases ha : x.cps.all (· < 128)
    · exact wpAny_pyIter_wide ha (pi_one (tk := s1.toks) I1 _ (turn_str _ x t "str_iterator" (.inr rfl)) ⟨_, Heap.get?_push_size _ rfl, rfl, rfl⟩ q)
    · exact wpAny_pyIter_ascii ha (pi_one (tk := s1.toks) I1 _ (turn_str _ x t "str_ascii_iterator" (.inl rfl)) ⟨_, Heap.get?_push_size _ rfl, rfl, rfl⟩ q)
end
def strItems (z : Str) : List D := z.cps.toList.map fun c => .str ⟨#[c]⟩
/-- the items of a value -/
def itsF (d : D) : FG Its' := fun _ S Q _ => match getS S d with
  | .tup ds => Q (ds, fun _ => True) S
  | .lst ds => Q (ds, fun S' => getS S' d = .lst ds) S
  | .str z => Q (strItems z, fun _ => True) S
  | _ => False
theorem jok_tup {G : Gr} {a : Addr} {ds : List D} : JOk G (Itt G.K a) ds (fun _ => True) (fun m _ H => ∃ xs, SqT G.K H a xs ∧ RepAll G m H xs ds) where
  mono := fun m S H m' S' H' sr sr' e ⟨xs, h, r⟩ => ⟨xs, by
    rcases h with h | h
    · exact .inl (e.rd h (sr.notTup h) (fun ps z => by cases z)).1
    · exact .inr h, r.mono0 sr e⟩
  go := fun i d m S H sr ⟨xs, h, r⟩ _ hd => by
    obtain ⟨v, hv, rv⟩ := r.get hd
    refine ⟨⟨xs, v, h, hv⟩, fun w H' ⟨e, k⟩ => ?_⟩
    subst e
    have z := k xs h
    rw [hv] at z; cases z
    exact ⟨Ext.refl _ _, sr, rv⟩
  stop := fun i m S H sr ⟨xs, h, r⟩ _ hi => ⟨xs, h, by rw [r.length]; exact hi⟩
theorem jok_lst {G : Gr} {a : Addr} {d : D} {ds : List D} : JOk G (Itl G.K a) ds (fun S' => getS S' d = .lst ds) (fun m S H => Rep G m H (.ref a) d) where
  mono := fun m S H m' S' H' sr sr' e r => r.mono0 sr e
  go := fun i x m S H sr r c hd => by
    obtain ⟨b, xs, e, h, ra⟩ := r.getL sr c
    cases e
    obtain ⟨v, hv, rv⟩ := ra.get hd
    refine ⟨⟨xs, v, h.sq, hv⟩, fun w H' ⟨e, k⟩ => ?_⟩
    subst e
    have z := k xs h.sq
    rw [hv] at z; cases z
    exact ⟨Ext.refl _ _, sr, rv⟩
  stop := fun i m S H sr r c hi => by
    obtain ⟨b, xs, e, h, ra⟩ := r.getL sr c
    cases e
    exact ⟨xs, h.sq, by rw [ra.length]; exact hi⟩
theorem jok_str {G : Gr} {z : Str} : JOk G (Its z) (strItems z) (fun _ => True) (fun _ _ _ => True) where
  mono := fun _ _ _ _ _ _ _ _ _ _ => trivial
  go := fun i x m S H sr _ _ hd => by
    unfold strItems at hd
    rw [List.getElem?_map] at hd
    obtain ⟨c, h1, rfl⟩ := Option.map_eq_some_iff.mp hd
    have h1 : z.cps[i]? = some c := by simpa using h1
    refine ⟨(Array.getElem?_eq_some_iff.mp h1).1, fun w H' ⟨e, c', k1, k2⟩ => ?_⟩
    subst e
    rw [h1] at k1; cases k1
    subst k2
    exact ⟨Ext.refl _ _, sr, .str _⟩
  stop := fun i m S H sr _ _ hi => by
    have : (strItems z).length = z.cps.size := by simp [strItems]
    show z.cps.size ≤ i
    omega
theorem i_val {G : Gr} {X : Cx} {W : WX} {tg e : Expr} {f : F} (hK : X.K = G.K) (he : PE X e (tE G W f)) : PI X tg e (tI G W (bindF f itsF)) :=
  PI.imp (pi_any he) fun σ H R ⟨τ, m, S, h⟩ => ⟨τ, m, S, h.seq fun m1 S1 H1 v d e1 sr1 r1 h1 => by
    obtain ⟨QD, QE, sr, er, hf, k, px⟩ := h1
    rw [hK]
    unfold itsF at hf
    split at hf
    · rename_i ds q
      cases getS_tup q
      obtain ⟨a, xs, rfl, t1, ra⟩ := r1.getT rfl
      exact .inr (.inl ⟨a, rfl, ⟨xs, t1⟩, k m1 S1 H1 _ _ (Ext.refl _ _) sr ⟨_, jok_tup, fun S _ => ⟨xs, t1, ra⟩⟩ hf⟩)
    · rename_i ds q
      obtain ⟨a, xs, rfl, t1, ra⟩ := r1.getL sr q
      exact .inl ⟨a, rfl, ⟨xs, t1.sq⟩, k m1 S1 H1 _ _ (Ext.refl _ _) sr ⟨_, jok_lst, fun S _ => r1⟩ hf⟩
    · rename_i z q
      cases getS_str q
      cases r1
      exact .inr (.inr ⟨z, rfl, k m1 S1 H1 _ _ (Ext.refl _ _) sr ⟨_, jok_str, fun S _ => trivial⟩ hf⟩)
    · exact hf.elim⟩
/-! ### range -/
def rngItems (lo c : Int) (n : Nat) : List D := (List.range n).map fun i => .int (lo + (i : Nat) * c)
theorem rngItems_get {lo c : Int} {n i : Nat} {d : D} (h : (rngItems lo c n)[i]? = some d) : i < n ∧ d = .int (lo + (i : Nat) * c) := by
  unfold rngItems at h
  rw [List.getElem?_map] at h
  obtain ⟨j, h1, rfl⟩ := Option.map_eq_some_iff.mp h
  have := List.getElem?_eq_some_iff.mp h1
  obtain ⟨h2, h3⟩ := this
  rw [List.length_range] at h2
  rw [List.getElem_range] at h3
  subst h3
  exact ⟨h2, rfl⟩
theorem jok_rng {G : Gr} {lo : Int} {n : Nat} : JOk G (Itr lo n) (rngItems lo 1 n) (fun _ => True) (fun _ _ _ => True) where
  mono := fun _ _ _ _ _ _ _ _ _ _ => trivial
  go := fun i x m S H sr _ _ hd => by
    obtain ⟨h1, rfl⟩ := rngItems_get hd
    refine ⟨h1, fun w H' ⟨e, k⟩ => ?_⟩
    subst e k
    exact ⟨Ext.refl _ _, sr, by rw [Int.mul_one]; exact .int _⟩
  stop := fun i m S H sr _ _ hi => by
    have : (rngItems lo 1 n).length = n := by simp [rngItems]
    show n ≤ i
    omega
theorem jok_rngC {G : Gr} {lo c : Int} {n : Nat} : JOk G (Itc lo c n) (rngItems lo c n) (fun _ => True) (fun _ _ _ => True) where
  mono := fun _ _ _ _ _ _ _ _ _ _ => trivial
  go := fun i x m S H sr _ _ hd => by
    obtain ⟨h1, rfl⟩ := rngItems_get hd
    refine ⟨h1, fun w H' ⟨e, k⟩ => ?_⟩
    subst e k
    exact ⟨Ext.refl _ _, sr, .int _⟩
  stop := fun i m S H sr _ _ hi => by
    have : (rngItems lo c n).length = n := by simp [rngItems]
    show n ≤ i
    omega
def smallB (i : Int) : Bool := decide (-(2 ^ 62) ≤ i) && decide (i < 2 ^ 62)
def rng1 (ds : List D) : FG Its' := fun _ S Q _ => match ds with
  | [.int j] => smallB j = true ∧ Q (rngItems 0 1 j.toNat, fun _ => True) S
  | _ => False
def rng2 (ds : List D) : FG Its' := fun _ S Q _ => match ds with
  | [.int i, .int j] => (smallB i = true ∧ smallB j = true) ∧ Q (rngItems i 1 (j - i).toNat, fun _ => True) S
  | _ => False
/-- range(i, j, -1) -/
def rng3 (ds : List D) : FG Its' := fun _ S Q _ => match ds with
  | [.int i, .int j, .int c] => (smallB i = true ∧ smallB j = true ∧ c = -1) ∧ Q (rngItems i (-1) (i - j).toNat, fun _ => True) S
  | _ => False
section
variable {G : Gr} {X : Cx} {W : WX} {tg a b c : Expr} {fa : FG (List D)} {p pos : Pos}
theorem i_rng1 (hg : Gl X "range") (hm : X.mg "range" = none) (ha : PA X [a] (tA G W fa)) (hs : starEach [a] X.env = [(false, eval a X.env)]) : PI X tg (.Call (.Name "range" p) [a] [] pos) (tI G W (bindF fa rng1)) :=
  PI.imp (pi_range1 hg hm ha hs) fun σ H R ⟨τ, m, S, h⟩ => ⟨τ, m, S, h.seq fun m1 S1 H1 vs ds e1 sr1 r1 h1 => by
    obtain ⟨QD, QE, sr, er, hf, k, px⟩ := h1
    unfold rng1 at hf
    split at hf
    · obtain ⟨hb, hf⟩ := hf
      simp only [smallB, Bool.and_eq_true, decide_eq_true_eq] at hb
      cases r1 with
      | cons r rr => cases rr; cases r; exact ⟨_, rfl, hb.1, hb.2, k m1 S1 H1 _ _ (Ext.refl _ _) sr ⟨_, jok_rng, fun S _ => trivial⟩ hf⟩
    · exact hf.elim⟩
theorem i_rng2 (hg : Gl X "range") (hm : X.mg "range" = none) (ha : PA X [a, b] (tA G W fa)) (hs : starEach [a, b] X.env = [(false, eval a X.env), (false, eval b X.env)]) (hs2 : starEach [b] X.env = [(false, eval b X.env)]) : PI X tg (.Call (.Name "range" p) [a, b] [] pos) (tI G W (bindF fa rng2)) :=
  PI.imp (pi_range2 hg hm ha hs hs2) fun σ H R ⟨τ, m, S, h⟩ => ⟨τ, m, S, h.seq fun m1 S1 H1 vs ds e1 sr1 r1 h1 => by
    obtain ⟨QD, QE, sr, er, hf, k, px⟩ := h1
    unfold rng2 at hf
    split at hf
    · obtain ⟨⟨hb, hb2⟩, hf⟩ := hf
      simp only [smallB, Bool.and_eq_true, decide_eq_true_eq] at hb hb2
      cases r1 with
      | cons r rr =>
        cases rr with
        | cons r' rr => cases rr; cases r; cases r'; exact ⟨_, _, rfl, ⟨hb.1, hb.2, hb2.1, hb2.2⟩, k m1 S1 H1 _ _ (Ext.refl _ _) sr ⟨_, jok_rng, fun S _ => trivial⟩ hf⟩
    · exact hf.elim⟩
theorem i_rng3 (hg : Gl X "range") (hm : X.mg "range" = none) (ha : PA X [a, b, c] (tA G W fa)) (hs : starEach [a, b, c] X.env = (false, eval a X.env) :: starEach [b, c] X.env) (hpl : (backTo pos (starEach [b, c] X.env)).any (·.1) = false) : PI X tg (.Call (.Name "range" p) [a, b, c] [] pos) (tI G W (bindF fa rng3)) :=
  PI.imp (pi_range3 hg hm ha hs hpl) fun σ H R ⟨τ, m, S, h⟩ => ⟨τ, m, S, h.seq fun m1 S1 H1 vs ds e1 sr1 r1 h1 => by
    obtain ⟨QD, QE, sr, er, hf, k, px⟩ := h1
    unfold rng3 at hf
    split at hf
    · obtain ⟨⟨hb, hb2, rfl⟩, hf⟩ := hf
      simp only [smallB, Bool.and_eq_true, decide_eq_true_eq] at hb hb2
      cases r1 with
      | cons r rr =>
        cases rr with
        | cons r' rr =>
          cases rr with
          | cons r'' rr => cases rr; cases r; cases r'; cases r''; exact ⟨_, _, _, _, rfl, RgC.neg hb.1 hb.2 hb2.1 hb2.2, k m1 S1 H1 _ _ (Ext.refl _ _) sr ⟨_, jok_rngC, fun S _ => trivial⟩ hf⟩
    · exact hf.elim⟩
end

/-! ### for -/
def forL (t : Tg) (body : FS) (chk : Store → Prop) : List D → FS
  | [] => fun E τ S => chk S ∧ E.nx τ S
  | d :: ds => fun E τ S => chk S ∧ match bindT t d τ with
    | some τ' => body { E with nx := fun τ'' S'' => forL t body chk ds E τ'' S'', ct := fun τ'' S'' => forL t body chk ds E τ'' S'', bk := E.nx } τ' S
    | none => False
def forS (fi : FG Its') (t : Tg) (body : FS) : FS := fun E τ S => fi τ S (fun p S' => forL t body p.2 p.1 E τ S') (fun x S' => E.ex x τ S')
section
variable {G : Gr} {X : Cx} {W : WX} {tg iter : Expr} {body : List Stmt} {fi : FG Its'} {t : Tg} {f : FS} {pos : Pos}
theorem s_for (hp : PassesOwn (model X.prog X.w) X.A X.env X.xe) (hc : X.calm = true) (hi : PI X tg iter (tI G W fi)) (hg : GOk G X tg t) (hb : PSs X body (tS G W f)) (hs : ∀ x, foldedSetIterable iter X.env x = pure x) : PS X (.For tg iter body [] pos) (tS G W (forS fi t f)) := by
  obtain ⟨g, pg, kg⟩ := hg
  refine PS.imp (ps_for hp hc hi pg hb hs) fun D σ H ⟨τ, m, S, h⟩ => ⟨τ, m, S, AtS.expr (ρ := rI G) (g := fun p E τ S => forL t f p.2 p.1 E τ S) h fun m1 S1 H1 J pq e1 sr1 r1 ⟨E, sr, er, hf, p⟩ => ?_⟩
  obtain ⟨ds, chk⟩ := pq
  obtain ⟨Src, J1, s1⟩ := r1
  refine ⟨fun i μ σ' H' => μ = ds.length - i ∧ ∃ τ' m' S', i ≤ ds.length ∧ Ext m1 H1 m' H' ∧ SR G m' S' H' ∧ EnvR G m' H' σ' τ' ∧ Src m' S' H' ∧ forL t f chk (ds.drop i) E τ' S', ⟨_, rfl, τ, m1, S1, Nat.zero_le _, Ext.refl _ _, sr, er, s1 S1 sr, by simpa using hf⟩, ?_⟩
  rintro i μ σ2 H2 ⟨rfl, τ2, m2, S2, hi2, e2, sr2, er2, src2, h2⟩
  by_cases hl : i < ds.length
  · obtain ⟨d, hd⟩ : ∃ d, ds[i]? = some d := ⟨ds[i], List.getElem?_eq_getElem hl⟩
    have ed : ds.drop i = d :: ds.drop (i + 1) := by
      rw [List.drop_eq_getElem_cons hl]
      congr 1
      rw [List.getElem?_eq_getElem hl] at hd
      exact Option.some.inj hd
    rw [ed] at h2
    obtain ⟨hc2, h2⟩ := h2
    obtain ⟨jg, jy⟩ := J1.go i d m2 S2 H2 sr2 src2 hc2 hd
    refine .inr ⟨jg, fun σ' H' => ∃ τ' m' S', Ext m1 H1 m' H' ∧ SR G m' S' H' ∧ EnvR G m' H' σ' τ' ∧ Src m' S' H' ∧ forL t f chk (ds.drop (i + 1)) E τ' S', fun σ' H' ⟨τ', m', S', a, b, c, d, e⟩ => ⟨ds.length - (i + 1), by omega, rfl, τ', m', S', by omega, a, b, c, d, e⟩, fun v H3 y3 => ?_⟩
    obtain ⟨e3, sr3, r3⟩ := jy v H3 y3
    cases q : bindT t d τ2 with
    | none => rw [q] at h2; exact h2.elim
    | some τ3 =>
      rw [q] at h2
      refine kg m2 S2 H3 σ2 τ2 τ3 v d _ sr3 (er2.mono sr2 e3) r3 q fun σ3 er3 _ => ⟨τ3, m2, S2, _, sr3, er3, h2, ?_⟩
      have e23 := e2.trans e3
      have p3 := p.mono e23
      have src3 := J1.mono m2 S2 H2 m2 S2 H3 sr2 sr3 e3.to0 src2
      exact ⟨fun m4 S4 H4 s t e4 sr4 er4 q4 => ⟨t, m4, S4, e23.trans e4, sr4, er4, J1.mono m2 S2 H3 m4 S4 H4 sr3 sr4 e4.to0 src3, q4⟩, p3.rt, p3.nx, fun m4 S4 H4 s t e4 sr4 er4 q4 => ⟨t, m4, S4, e23.trans e4, sr4, er4, J1.mono m2 S2 H3 m4 S4 H4 sr3 sr4 e4.to0 src3, q4⟩, p3.ex⟩
  · have e : i = ds.length := by omega
    rw [e, List.drop_length] at h2
    obtain ⟨hc2, h2⟩ := h2
    exact .inl ⟨J1.stop i m2 S2 H2 sr2 src2 hc2 (by show ds.length ≤ i; omega), (p.mono e2).nx m2 S2 H2 σ2 τ2 (Ext.refl _ _) sr2 er2 h2⟩
end

/-! ### comprehensions -/
def noX : QX := fun _ _ => False
def W0 : WX := fun _ _ _ _ => False
def wipeE (τ : Env) : List Nat → Env
  | [] => τ
  | v :: vs => (wipeE τ vs).set v none
theorem EnvR.wipe {G : Gr} {m : Mp} {H : Hp} {σ : L2.St} {τ : Env} (r : EnvR G m H σ τ) : ∀ vs, EnvR G m H (L2.wipe σ vs) (wipeE τ vs)
  | [] => r
  | v :: vs => (EnvR.wipe r vs).unset v
theorem wipe_congr {σ σ' : L2.St} : ∀ {vs l : List Nat}, SameBut l (L2.wipe σ vs) σ' → (∀ i ∈ l, i ∈ vs) → L2.wipe σ' vs = L2.wipe σ vs := by
  intro vs l h hl
  have key : ∀ (ws : List Nat) (σ : L2.St) (i : Nat), (L2.wipe σ ws)[i]? = if i < σ.length then (if i ∈ ws then some none else σ[i]?) else none := by
    intro ws
    induction ws with
    | nil => intro σ i; by_cases hi : i < σ.length <;> simp [L2.wipe, hi]
    | cons w ws ih =>
      intro σ i
      unfold L2.wipe
      by_cases e : w = i
      · subst e
        by_cases hi : w < σ.length
        · rw [List.getElem?_set_self (by rw [L2.wipe_length]; exact hi)]
          simp [hi]
        · rw [List.getElem?_eq_none (by simp [L2.wipe_length]; omega)]
          simp [hi]
      · rw [List.getElem?_set_ne e, ih]
        have : i ≠ w := fun z => e z.symm
        simp [this]
  apply List.ext_getElem?
  intro i
  rw [key, key]
  have e1 : σ'.length = σ.length := by rw [h.1, L2.wipe_length]
  rw [e1]
  by_cases hi : i < σ.length
  · simp only [hi, if_true]
    by_cases hv : i ∈ vs
    · simp [hv]
    · simp only [hv, if_false]
      rw [h.2 i (fun z => hv (hl i z)), key]
      simp [hi, hv]
  · simp [hi]
def compL (t : Tg) (ft : FG Bool) (fe : F) (chk : Store → Prop) (τ : Env) : List D → List D → Store → (List D → Store → Prop) → Prop
  | [], acc, S, Q => chk S ∧ Q acc S
  | d :: ds, acc, S, Q => chk S ∧ match bindT t d τ with
    | some τ' => ft τ' S (fun b S1 => if b = true then fe τ' S1 (fun x S2 => acc.length < sizeLine ∧ compL t ft fe chk τ ds (acc ++ [x]) S2 Q) noX else compL t ft fe chk τ ds acc S1 Q) noX
    | none => False
def compF (mu : Bool) (fi : FG Its') (t : Tg) (ft : FG Bool) (fe : F) (vs : List Nat) : F := fun τ S Q E => fi τ S (fun p S1 => compL t ft fe p.2 (wipeE τ vs) p.1 [] S1 (fun acc S2 => newL mu acc τ S2 Q E)) E
section
variable {G : Gr} {W : WX} {fi : FG Its'} {t : Tg} {ft : FG Bool} {fe : F} {vs : List Nat} {mu : Bool} {σ : L2.St} {H : Hp} {Q : VK} {g : TG}
theorem tLc_imp (hvs : ∀ i ∈ slotsT t, i ∈ vs)
    (kg : ∀ (m : Mp) (S : Store) (H : Hp) (σ : L2.St) (τ τ' : Env) (v : V) (d : D) (Q : L2.St → Hp → Prop), SR G m S H → EnvR G m H σ τ → Rep G m H v d → bindT t d τ = some τ' → (∀ σ', EnvR G m H σ' τ' → SameBut (slotsT t) σ σ' → Q σ' H) → g v σ H Q)
    (h : tE G W (compF mu fi t ft fe vs) σ H Q) : tLc (tI G W fi) g (tT G W0 ft) (tE G W0 fe) vs σ H Q := by
  obtain ⟨τ, m, S, QD, QE, sr, er, hf, k, px⟩ := h
  refine ⟨τ, m, S, _, QE, sr, er, hf, fun m1 S1 H1 J pq e1 sr1 ⟨Src, J1, src1⟩ q1 => ?_, px⟩
  obtain ⟨ds, chk⟩ := pq
  intro D hD
  have src1 := src1 S1 sr1
  have h0 := Ext0.hide (m := m1) (o := .lst []) hD
  have srH := sr1.hide hD
  refine ⟨fun i μ H' => μ = ds.length - i ∧ ∃ m' S' acc accD, i ≤ ds.length ∧ m'.hid = D :: m1.hid ∧ Ext m1 H1 (m'.hidAs m1.hid) H' ∧ SR G m' S' H' ∧ EnvR G m' H' (L2.wipe σ vs) (wipeE τ vs) ∧ Src m' S' H' ∧ H' D = some (.lst acc) ∧ RepAll G m' H' acc accD ∧
      compL t ft fe chk (wipeE τ vs) (ds.drop i) accD S' (fun acc S2 => newL mu acc τ S2 QD QE),
    ⟨ds.length, by simp, m1.hide D, S1, [], [], Nat.zero_le _, rfl, ?_, srH, ((er.mono sr e1).mono0 sr1 h0).wipe vs, J1.mono _ _ _ _ _ _ sr1 srH h0 src1, upd_same, .nil, by simpa using q1⟩, ?_⟩
  · have : (m1.hide D).hidAs m1.hid = m1 := rfl
    rw [this]
    exact Ext.upd sr1 hD
  rintro i μ H2 ⟨rfl, m2, S2, acc, accD, hi2, hh2, ec2, sr2, er2, src2, hD2, ra2, c2⟩
  by_cases hl : i < ds.length
  · obtain ⟨d, hd⟩ : ∃ d, ds[i]? = some d := ⟨ds[i], List.getElem?_eq_getElem hl⟩
    have ed : ds.drop i = d :: ds.drop (i + 1) := by
      rw [List.drop_eq_getElem_cons hl]
      congr 1
      rw [List.getElem?_eq_getElem hl] at hd
      exact Option.some.inj hd
    rw [ed] at c2
    obtain ⟨hc2, c2⟩ := c2
    obtain ⟨jg, jy⟩ := J1.go i d m2 S2 H2 sr2 src2 hc2 hd
    refine .inr ⟨jg, fun H' => ∃ m' S' acc accD, m'.hid = D :: m1.hid ∧ Ext m1 H1 (m'.hidAs m1.hid) H' ∧ SR G m' S' H' ∧ EnvR G m' H' (L2.wipe σ vs) (wipeE τ vs) ∧ Src m' S' H' ∧ H' D = some (.lst acc) ∧ RepAll G m' H' acc accD ∧
      compL t ft fe chk (wipeE τ vs) (ds.drop (i + 1)) accD S' (fun acc S2 => newL mu acc τ S2 QD QE), fun H' ⟨m', S', acc, accD, a1, a2, a3, a4, a5, a6, a7, a8⟩ => ⟨ds.length - (i + 1), by omega, rfl, m', S', acc, accD, hl, a1, a2, a3, a4, a5, a6, a7, a8⟩, fun v H3 y3 => ?_⟩
    obtain ⟨e3, sr3, r3⟩ := jy v H3 y3
    have er3 := er2.mono sr2 e3
    have inh2 : D ∈ m2.hid := by rw [hh2]; exact List.mem_cons_self
    -- what stands in the hidden list through a step
    cases q : bindT t d (wipeE τ vs) with
    | none => rw [q] at c2; exact c2.elim
    | some τ3 =>
      rw [q] at c2
      refine kg m2 S2 H3 _ _ τ3 v d _ sr3 er3 r3 q fun σ3 er3' sb => ⟨wipe_congr sb hvs, τ3, m2, S2, _, noX, sr3, er3', c2, fun m4 S4 H4 b b' e4 sr4 rb q4 => ?_, fun _ _ _ _ _ _ _ _ _ z => z.elim⟩
      cases (show b = b' from rb)
      have e24 := e3.trans e4
      have hh4 : m4.hid = D :: m1.hid := e24.hid.trans hh2
      have ec4 := ec2.outer hD hh2 e24
      have src4 := J1.mono _ _ _ _ _ _ sr2 sr4 e24.to0 src2
      have hD4 : H4 D = some (.lst acc) := (e24.hidk D inh2).trans hD2
      cases b with
      | false =>
        rw [if_neg Bool.false_ne_true] at q4 ⊢
        exact ⟨m4, S4, acc, accD, hh4, ec4, sr4, er2.mono sr2 e24, src4, hD4, ra2.mono sr2 e24, q4⟩
      | true =>
        rw [if_pos rfl] at q4 ⊢
        refine ⟨τ3, m4, S4, _, noX, sr4, er3'.mono sr3 e4, q4, fun m5 S5 H5 y x e5 sr5 r5 q5 => ?_, fun _ _ _ _ _ _ _ _ _ z => z.elim⟩
        obtain ⟨hz, q5⟩ := q5
        have e25 := e24.trans e5
        have hh5 : m5.hid = D :: m1.hid := e25.hid.trans hh2
        have in5 : D ∈ m5.hid := by rw [hh5]; exact List.mem_cons_self
        have hD5 : H5 D = some (.lst acc) := (e25.hidk D inh2).trans hD2
        have ra5 := ra2.mono sr2 e25
        have f5 := Ext0.fill (H := H5) (o := .lst (acc ++ [y])) in5
        have sr6 := sr5.fill (xs := acc ++ [y]) in5
        exact ⟨acc, hD5, by rw [ra5.length]; exact hz, m5, S5, acc ++ [y], accD ++ [x], hh5, Ext.outerFill sr1 (ec2.outer hD hh2 e25) hD, sr6, (er2.mono sr2 e25).mono0 sr5 f5, J1.mono _ _ _ _ _ _ sr5 sr6 f5 (J1.mono _ _ _ _ _ _ sr2 sr5 e25.to0 src2), upd_same, (ra5.append (.cons r5 .nil)).mono0 sr5 f5, q5⟩
  · have e : i = ds.length := by omega
    rw [e, List.drop_length] at c2
    obtain ⟨hc2, c2⟩ := c2
    refine .inl ⟨J1.stop i m2 S2 H2 sr2 src2 hc2 (by show ds.length ≤ i; omega), ?_⟩
    have nD : D ∉ m1.hid := fun z => by
      obtain ⟨⟨xs, h⟩, _⟩ := sr1.hidt D z
      rw [hD] at h; cases h
    unfold Dx.newL at c2
    cases mu with
    | false =>
      rw [if_neg Bool.false_ne_true] at c2
      exact k (m2.hidAs m1.hid) S2 H2 _ _ (e1.trans ec2) (sr2.unhide hh2) (rep_unhide sr2 hh2 nD hD2 ra2) c2
    | true =>
      rw [if_pos rfl] at c2
      refine k ((m2.hidAs m1.hid).snoc D) (S2 ++ [.lst accD]) H2 _ _ (e1.trans (Ext.toStore (l := m1.hid) ec2 hD)) (sr2.toStore hh2 nD hD2 ra2) ?_ c2
      rw [sr2.len]
      exact rep_obj (m := m2.hidAs m1.hid)
variable {X : Cx} {elt tg iter : Expr} {ifs : List Expr} {scope : Scope} {own : List (Str × Nat)} {pos pos' spos : Pos}
/-- the parts of a comprehension's block -/
structure BlkE (G : Gr) (X : Cx) (tg elt : Expr) (ifs : List Expr) (scope : Scope) (t : Tg) (ft : FG Bool) (fe : F) : Prop where
  ex : ∃ g : TG, (∀ (s : Shared) (H : Hp) (C : Addr) (cl : List (Str × Addr)) (fp : List Addr), PG (X.blk s H scope (compEnvC scope cl C X.env) fp) tg g) ∧
    ∀ (m : Mp) (S : Store) (H : Hp) (σ : L2.St) (τ τ' : Env) (v : V) (d : D) (Q : L2.St → Hp → Prop), SR G m S H → EnvR G m H σ τ → Rep G m H v d → bindT t d τ = some τ' → (∀ σ', EnvR G m H σ' τ' → SameBut (slotsT t) σ σ' → Q σ' H) → g v σ H Q
  ts : ∀ (s : Shared) (H : Hp) (C : Addr) (cl : List (Str × Addr)) (fp : List Addr), PTs (X.blk s H scope (compEnvC scope cl C X.env) fp) ifs (tT G W0 ft)
  el : ∀ (s : Shared) (H : Hp) (C : Addr) (cl : List (Str × Addr)) (fp : List Addr), PE (X.blk s H scope (compEnvC scope cl C X.env) fp) elt (tE G W0 fe)
theorem e_lc (hc : X.calm = true) (hN : X.N.Nodup) (hi : PI X tg iter (tI G W fi)) (ok : BlkOk X.N X.env.scope scope own) (B : BlkE G X tg elt ifs scope t ft fe) (hs : ∀ x, foldedSetIterable iter X.env x = pure x) (hvs : ∀ i ∈ slotsT t, i ∈ own.map (·.2)) :
    PE X (.ListComp elt [⟨tg, iter, ifs, 0⟩] scope pos) (tE G W (compF mu fi t ft fe (own.map (·.2)))) := by
  obtain ⟨g, h1, h2⟩ := B.ex
  exact PE.imp (pe_lc hc hN hi ok h1 B.ts B.el hs) fun σ H Q h => tLc_imp hvs h2 h
theorem s_setLc {i : Nat} {y : Str} {py : Pos} (hc : X.calm = true) (hN : X.N.Nodup) (hy : X.N[i]? = some y) (hyl : X.env.scope.names.lookup y = some .local)
    (hsw : swapsWith (.ListComp elt [⟨tg, iter, ifs, 0⟩] scope pos) (some (.Name y py)) spos.line X.env = pure true) (hi : PI X tg iter (tI G W fi)) (ok : BlkOk X.N X.env.scope scope own) (B : BlkE G X tg elt ifs scope t ft fe) (hs : ∀ x, foldedSetIterable iter X.env x = pure x) (hvs : ∀ i ∈ slotsT t, i ∈ own.map (·.2)) :
    PS X (.Assign [.Name y py] (.ListComp elt [⟨tg, iter, ifs, 0⟩] scope pos) spos) (tS G W (setS i (compF mu fi t ft fe (own.map (·.2))))) := by
  obtain ⟨g, h1, h2⟩ := B.ex
  refine PS.imp (ps_setLc hc hN hy hyl hsw hi ok h1 B.ts B.el hs) fun D σ H ⟨τ, m, S, h⟩ => ?_
  exact tLc_imp (Q := fun x H1 => gName i x σ H1 D.nx) hvs h2 ⟨τ, m, S, AtS.expr (ρ := rV G) (g := fun d E τ S => E.nx (τ.set i (some d)) S) h fun m1 S1 H1 v d e1 sr1 r1 ⟨E, sr, er, hf, p⟩ => p.nx m1 S1 H1 _ _ (Ext.refl _ _) sr (er.set r1 i) hf⟩
theorem ts_nil {X : Cx} : PTs X [] (tT G W0 (retF true)) := ⟨fun pins s σ H Q I ⟨τ, m, S, h⟩ => pts_nil.run pins s σ H Q I (h.ret m H true (Ext.refl _ _) h.sr rfl)⟩
theorem ts_one {X : Cx} {c : Expr} {ft : FG Bool} (h : PT X c (tT G W0 ft)) : PTs X [c] (tT G W0 ft) := pts_one h
end
end Dx

set_option Elab.async false
set_option linter.all false
set_option maxRecDepth 100000
set_option maxHeartbeats 4000000
/-! DX, part 9: calls by contracts; a def by its body; raise; f(lambda: e). -/
namespace Dx
open PySem PySem.Spec PyProof.Rows L2

/-- a contract: what a caller must show -/
abbrev Ct := List D → Store → (D → Store → Prop) → QX → Prop
def callC (c : Ct) (ds : List D) : F := fun _ S Q E => c ds S Q E
def spD (G : Gr) (n : Nat) (c : Ct) : Sp := fun vs H Q E => ∃ m S ds QD QE, SR G m S H ∧ RepAll G m H vs ds ∧ ds.length = n ∧ c ds S QD QE ∧ PostG G (rV G) m H QD Q ∧
  ∀ (m' : Mp) (S' : Store) (H' : Hp) (cls : Value) (dd : Option Addr) (x : Ex), Ext m H m' H' → SR G m' S' H' → RepX G m' H' cls dd x → QE x S' → E cls dd H'
/-- a contract that asks for so many arguments -/
def Ct.sized (c : Ct) (n : Nat) : Prop := ∀ ds S Q E, c ds S Q E → ds.length = n

section
variable {G : Gr} {X : Cx} {W : WX} {k n : Nat} {f : Addr} {fd : FuncData} {ps : List Str} {c : Ct} {x : Str} {p pos : Pos} {e : Expr} {es : List Expr} {fa : FG (List D)}
theorem e_call (F : FnOk X.prog X.w X.K X.mg X.base (L2.CX X.prog X.w) k f fd ps (spD G n c)) (hc : Ct.sized c n) (hr : Room k X.A) (hg : Gl X x) (hm : X.mg x = some (.ref f)) (hk : PySem.W.keepIn X.K (.ref f) = true) (hb : Binds X.K fd ps []) (tk : Takes X W)
    (ha : PA X (e :: es) (tA G W fa)) (hdb : (x == ("__debug__" : Str)) = false) (he : starEach (e :: es) X.env = (false, eval e X.env) :: starEach es X.env) (hpl : (backTo pos (starEach es X.env)).any (·.1) = false) :
    PE X (.Call (.Name x p) (e :: es) [] pos) (tE G W (bindF fa (callC c))) :=
  PE.imp (pe_callS F hr hg hm hk hb (fun σ => passAt tk σ) ha hdb he hpl) fun σ H Q ⟨τ, m, S, h⟩ => ⟨τ, m, S, h.seq fun m1 S1 H1 vs ds e1 sr1 r1 ⟨QD, QE, sr, er, hf, k, px⟩ => ⟨m1, S1, ds, QD, QE, sr, r1, hc ds S1 QD QE hf, hf, k, fun m' S' H' cls dd x e sr' rx q => px m' S' H' cls dd x e sr' rx q⟩⟩
theorem e_call0 (F : FnOk X.prog X.w X.K X.mg X.base (L2.CX X.prog X.w) k f fd ps (spD G n c)) (hc : Ct.sized c n) (hr : Room k X.A) (hg : Gl X x) (hm : X.mg x = some (.ref f)) (hk : PySem.W.keepIn X.K (.ref f) = true) (hb : Binds X.K fd ps []) (tk : Takes X W)
    (hdb : (x == ("__debug__" : Str)) = false) : PE X (.Call (.Name x p) [] [] pos) (tE G W (callC c [])) := by
  refine ⟨fun pins s σ H Q I ⟨τ, m, S, QD, QE, sr, er, hf, kk, px⟩ => ?_⟩
  refine wpAny_Call_Name_kw (ld_glob I hg hm ?_ hdb)
  exact PySem.W.callWith_K0 I.kIn hk (run_fnS (us := []) (vs := []) (E := WE W) F hr hb (passAt tk σ) I .nil ⟨m, S, [], QD, QE, sr, .nil, hc [] S QD QE hf, hf, kk, fun m' S' H' cls dd x e sr' rx q => px m' S' H' cls dd x e sr' rx q⟩)
end

/-! ### a def's body -/
def startE (N : List Str) (ds : List D) : Env := ds.map some ++ List.replicate (N.length - ds.length) none
theorem start_env {G : Gr} {m : Mp} {H : Hp} {N : List Str} {vs : List V} {ds : List D} (r : RepAll G m H vs ds) : EnvR G m H (L2.start N vs) (startE N ds) := by
  refine ⟨by simp [L2.start, startE, r.length], fun i d h => ?_⟩
  unfold startE at h
  by_cases hi : i < ds.length
  · rw [List.getElem?_append_left (by simpa using hi), List.getElem?_map] at h
    obtain ⟨d', h1, h2⟩ := Option.map_eq_some_iff.mp h
    cases h2
    obtain ⟨v, hv, rv⟩ := r.get h1
    refine ⟨v, ?_, rv⟩
    unfold L2.start
    rw [List.getElem?_append_left (by simp [r.length]; exact hi), List.getElem?_map, hv]
    rfl
  · rw [List.getElem?_append_right (by simpa using hi), List.getElem?_replicate] at h
    split at h <;> cases h
/-- what a body owes its contract -/
def bodyEnds (QD : D → Store → Prop) (QE : QX) : DEnds := { nx := fun _ S => QD .non S, rt := QD, ex := fun x _ S => QE x S }
section
variable {G : Gr} {P : Program} {w : World} {mg : Str → Option Value} {base : Heap} {k n : Nat} {f : Addr} {name qual : Str} {params : Arguments} {body : List Stmt} {scope : Scope} {dV kV doc pm cdv ct oc : Value} {an od : Option Addr}
    {osl : Array (Option Value)} {N ps : List Str} {c : Ct} {fs : FS}
theorem fn_ok (lk : G.K.lookup f = some ⟨oc, od, .func (PySem.W.fnOf name qual params body scope dV kV doc pm an cdv ct), osl⟩) (hcd : PySem.W.codeIn G.K cdv qual = true) (S : FnScope N ps scope) (hn : ps.length = n)
    (hbody : ∀ (A : Around) (outer : List PySem.Env) (s : Shared) (H : Hp) (E : XK), Room k (A.deeper (envOfC qual scope s.heap.objs.size f cdv)) →
      PSs (cxOf (L2.CX P w) P w G.K mg base N qual scope f cdv A outer s H E) body (tS G (fun cls d _ H => E cls d H) fs))
    (hfs : ∀ ds S Q E, ds.length = n → c ds S Q E → fs (bodyEnds Q E) (startE N ds) S) :
    FnOk P w G.K mg base (L2.CX P w) (k + 1) f (PySem.W.fnOf name qual params body scope dV kV doc pm an cdv ct) ps (spD G n c) := by
  refine fn_of lk hcd S (fun vs H Q E ⟨m, S, ds, QD, QE, sr, r, hl, _⟩ => by rw [r.length, hl, hn]) fun A outer s H vs Q E hr ⟨m, S, ds, QD, QE, sr, r, hl, hc, kk, px⟩ => ?_
  refine ⟨_, hbody A outer s H E hr, startE N ds, m, S, bodyEnds QD QE, sr, start_env r, hfs ds S QD QE hl hc, ?_⟩
  exact ⟨fun m' S' H' σ' τ' e sr' er q => kk m' S' H' .non .non e sr' .non q, kk, fun _ _ _ _ _ _ _ _ z => z.elim, fun _ _ _ _ _ _ _ _ z => z.elim, fun m' S' H' σ' τ' cls dd x e sr' er rx q => px m' S' H' cls dd x e sr' rx q⟩
end

/-! ### raise X('..') -/
def raiseS (x : Str) : FS := fun E τ S => E.ex ⟨x, []⟩ τ S
section
variable {G : Gr} {X : Cx} {W : WX} {C : Addr} {bmB : List Value} {B newId initId : String} {x m : Str} {j : Nat} {p p2 pos pos2 : Pos}
theorem s_raise (hmg : X.mg = G.mg) (hc : X.calm = true) (tk : Takes X W) (F : ExcBaseFacts B newId initId bmB) (q : PySem.W.excIn X.K C bmB newId = true) (gC : X.mg x = some (.ref C)) (kC : PySem.W.keepIn X.K (.ref C) = true) (r : Raises X (.ref C)) (hg : Gl X x)
    (hdb : (x == ("__debug__" : Str)) = false) : PS X (.Raise (some (.Call (.Name x p) [.Constant (.str m) j p2] [] pos)) none pos2) (tS G W (raiseS x)) :=
  PS.imp (ps_raise hc tk (pmk_own F q gC kC r hg hdb)) fun D σ H ⟨τ, mm, S, E, sr, er, hf, pp⟩ => pp.ex mm S H σ τ _ _ _ (Ext.refl _ _) sr er ⟨⟨C, hmg ▸ gC, rfl⟩, .inl rfl⟩ hf
end
end Dx

set_option Elab.async false
set_option linter.all false
set_option maxRecDepth 100000
set_option maxHeartbeats 4000000
/-! DX, part 10: f(lambda: e), f a def that tells an error's word. -/
namespace Dx
open PySem PySem.Spec PyProof.Rows L2

/-- which handler takes a class: by names -/
structure Hd where
  cls : Str
  ret : Str
def wHd (K : PySem.W.Frag) (Q : VK) : List (Value × Str) → Value → Hp → Prop
  | [], _, _ => False
  | (c, r) :: l, cls, H => ∃ b, PySem.W.exmOne K cls c = some b ∧ (b = true → Q (.str r) H) ∧ (b = false → wHd K Q l cls H)
def TTm (K : PySem.W.Frag) (l : List (Value × Str)) (dflt : Str) : (XK → Hp → VK → Prop) → Hp → VK → Prop := fun tl H Q => tl (fun cls _ H' => wHd K Q l cls H') H (fun _ H' => Q (.str dflt) H')
/-- the handlers' texts -/
inductive HdsM (X : Cx) : List ExceptHandler → List (Value × Str) → Prop
  | nil : HdsM X [] []
  | cons {x ret : Str} {C : Addr} {j : Nat} {np p1 p2 pos' : Pos} {hds : List ExceptHandler} {l : List (Value × Str)} (hge : Gl X x) (hde : (x == ("__debug__" : Str)) = false) (hme : X.mg x = some (.ref C)) (r : HdsM X hds l) :
      HdsM X (.ExceptHandler (some (.Name x np)) none [.Return (some (.Constant (.str ret) j p1)) p2] pos' :: hds) ((.ref C, ret) :: l)
def tsM (l : List (Value × Str)) : List (Value × (Addr → Value → Option Addr → TS)) := l.map fun q => (q.1, fun _ _ _ => tRet (tC (.str q.2)))
theorem HdsM.ok {X : Cx} {hds : List ExceptHandler} {l : List (Value × Str)} (h : HdsM X hds l) : HdsOk X hds (tsM l) := by
  induction h with
  | nil => exact .nil
  | cons hge hde hme r ih => exact .cons ⟨hge, hde, .inl hme⟩ (fun a oe cls d pn _ _ => pss_one (ps_ret pe_str)) ih
theorem wMany_of {K : PySem.W.Frag} {D : Ends} {σ : L2.St} {d : Option Addr} : ∀ {l : List (Value × Str)} {cls : Value} {H : Hp}, wHd K D.rt l cls H → wMany K (fun _ _ _ _ => False) D (tsM l) cls d σ H
  | [], _, _, h => h.elim
  | (c, r) :: l, cls, H, ⟨b, h1, h2, h3⟩ => ⟨b, h1, fun e a _ => h2 e, fun e => wMany_of (h3 e)⟩
theorem gives_many {X : Cx} {Ng : List Str} {x a q dflt : Str} {sg : Scope} {g : Addr} {cdg : Value} {j : Nat} {p1 p2 p3 p4 p5 p6 : Pos} {h0 : ExceptHandler} {hds : List ExceptHandler} {l : List (Value × Str)}
    (hh : ∀ (s : Shared) (H : Hp), HdsM (cxOf C8.CX0 X.prog X.w X.K X.mg X.base Ng x sg g cdg X.A X.stack s H C8.E0).nox (h0 :: hds) l) (h0' : ∀ f : Addr, (L2.start Ng [V.ref f])[0]? = some (some (V.ref f)))
    (hsw : ∀ env : PySem.Env, swapsWith (.Call (.Name a p1) [] [] p2) none p3.line env = pure false) :
    LamX.GivesTo X Ng x sg g cdg [.Try [.Expr (.Call (.Name a p1) [] [] p2) p3] (h0 :: hds) [] [] p4, .Return (some (.Constant (.str dflt) j p5)) p6] a q (TTm X.K l dflt) := by
  intro f c' s H Q tl act hc h
  refine ⟨_, pss_cons (ps_try_many (X := (cxOf C8.CX0 X.prog X.w X.K X.mg X.base Ng x sg g cdg X.A X.stack s H C8.E0).nox) (l := tsM l)
      (tb := fun W D σ H => ∃ Ech : XK, (∀ cls d σ' H', Ech cls d H' → W cls d σ' H') ∧ σ[0]? = some (some (.ref f)) ∧ H c' = some (LamX.CodeO c' q) ∧ tl Ech H (fun _ H' => D.nx σ H'))
      rfl rfl LamX.takes0 (fun W pn xe tk _ => ?_) (hh s H).ok) (pss_one (ps_ret pe_str)), ?_⟩
  · refine ⟨fun pins s' σ H' D I h' => ?_⟩
    obtain ⟨Ech, hW, h1, h2, h3⟩ := h'
    have hp := act W pn xe Ech p1 p2 tk hW
    have hq := pss_one (ps_expr (pos := p3) hp (hsw _))
    exact hq.run pins s' σ H' D I ⟨h1, h2, h3⟩
  · exact ⟨fun cls _ H' => wHd X.K Q l cls H', fun cls d σ' H' z => wMany_of z, h0' f, hc, h⟩

/-- the reading: the body, its error told as a word -/
def lamH (hs : List (Str × Bool × Str)) : Option Str := match hs.find? (·.2.1) with
  | some q => some q.2.2
  | none => none
/-- word x: what the handlers make of the class x -/
def lamF (word : Str → Option Str) (dflt : Str) (f : F) : F := fun τ S Q _ => f τ S (fun _ S' => Q (.str dflt) S') (fun x S' => match word x.cls with
  | some r => Q (.str r) S'
  | none => False)
/-- what the classes say of one another -/
def WordOk (G : Gr) (l : List (Value × Str)) (word : Str → Option Str) : Prop :=
  ∀ (x r : Str) (C : Addr), word x = some r → G.mg x = some (.ref C) → ∀ (Q : VK) (H : Hp), Q (.str r) H → wHd G.K Q l (.ref C) H
theorem Ext.ofN {G : Gr} {m : Mp} {S : Store} {H H1 : Hp} (sr : SR G m S H) (e : LamX.ExtN H H1) : Ext m H m H1 where
  len := Nat.le_refl _
  old := fun _ _ _ h => h
  new := fun n a h z => by rw [List.getElem?_eq_none (by omega)] at z; cases z
  keep := fun b o h _ t => e b o h t
  there := fun b h o q => by
    by_cases t : ∃ ps, o = .tbl ps
    · exact t
    · exact h o (e b o q fun ps z => t ⟨ps, z⟩)
  hid := rfl
  hidk := fun a ha => by
    obtain ⟨⟨xs, hx⟩, _⟩ := sr.hidt a ha
    rw [hx]
    exact e a _ hx fun ps z => by cases z
theorem SR.ofN {G : Gr} {m : Mp} {S : Store} {H H1 : Hp} (sr : SR G m S H) (e : LamX.ExtN H H1) (t : LamX.Tabs G.T H1) : SR G m S H1 := by
  have ex := Ext.ofN sr e
  refine ⟨sr.len, sr.inj, fun n a o h1 h2 => ?_, t, sr.dead, fun a ha => ?_⟩
  · have z := sr.at_ n a o h1 h2
    cases o with
    | dead => exact z.elim
    | lst es => obtain ⟨ys, h, q⟩ := z; exact ⟨ys, e a _ h (fun ps z => by cases z), q.mono sr ex⟩
    | dct kvs => obtain ⟨ys, h, q⟩ := z; exact ⟨ys, e a _ h (fun ps z => by cases z), q.mono sr ex⟩
  · obtain ⟨⟨xs, hx⟩, h⟩ := sr.hidt a ha
    exact ⟨⟨xs, e a _ hx fun ps z => by cases z⟩, h⟩
section
variable {G : Gr} {X : Cx} {W : WX} {x a dflt : Str} {g c P : Addr} {k : Nat} {pg : Arguments} {bg : List Stmt} {sg : Scope} {Ng : List Str} {fd : FuncData} {params : Arguments} {body : Expr} {scope : Scope} {fb : F} {p lpos pos : Pos} {l : List (Value × Str)} {word : Str → Option Str}
theorem e_lam (hK : X.K = G.K) (hMg : X.mg = G.mg) (hg : Gl X x) (hm : X.mg x = some (.ref g)) (D : FunD X.K x x pg bg sg [] [] g fd) (Sg : FnScope Ng [a] sg) (hNg : Ng[0]? = some a) (hva : Vis sg a)
    (hbg : ∀ (kV doc pm : Value) (an : Option Addr) (cdv ct : Value) (us : List Value), us.length = ([a] : List Str).length → bindArgs (PySem.W.fnOf x x pg bg sg Value.none kV doc pm an cdv ct) { pos := us } = pure (([a] : List Str).zip us))
    (hG : ∀ cdv : Value, LamX.GivesTo X Ng x sg g cdv bg a (X.env.qual ++ "<lambda>") (TTm X.K l dflt)) (hw : WordOk G l word)
    (TB : LamX.TabB X.base X.mg c P) (hcode : X.env.code = .ref c) (hmT : (P, X.env.qual ++ "<lambda>") ∈ G.T) (hu : ∀ p ∈ G.T, p.1 = P → p.2 = X.env.qual ++ "<lambda>") (hr : Room (k + 2) X.A) (L : LamX.LamS X.env.scope scope) (hdef : defaultsOf params X.env = ([], []))
    (hbind : ∀ (q : Str) (cl : List (Str × Addr)) (pm cv ctv : Value), bindArgs (PySem.W.kla_fn "<lambda>" q params body scope cl pm cv ctv) ⟨[], []⟩ = pure [])
    (hbody : ∀ (A : Around) (outer : List PySem.Env) (s : Shared) (H : Hp) (E : XK) (f c' : Addr), Room k (A.deeper (LamX.lamEnv X scope s.heap.objs.size f c')) → PE (LamX.lamCx X A outer s H E scope f c') body (tE G (fun cls d _ H => E cls d H) fb))
    (hdb : (x == ("__debug__" : Str)) = false := by decide) (hd : (a == ("__debug__" : Str)) = false := by decide) (hcd : (a == ("__classdict__" : Str)) = false := by decide) :
    PE X (.Call (.Name x p) [.Lambda params body scope lpos] [] pos) (tE G W (lamF word dflt fb)) := by
  have bnd : L2.Binds X.K fd [a] [] := D.bindsN hbg
  obtain ⟨⟨oc, od, dV, kV, doc, pm, an, cdv, ct, osl, rfl, lk, hcd', dfl, kwd⟩, kp⟩ := D
  refine PE.imp (LamX.pe_lamcall (T := G.T) hg hm kp lk hcd' bnd Sg hNg hva (hG cdv) TB hcode hmT hu hr L hdef hbind hbody hdb hd hcd) fun σ H Q ⟨τ, m, S, QD, QE, sr, er, hf, kk, px⟩ => ?_
  refine ⟨sr.tabs, fun H1 eN T1 => ?_⟩
  have e1 := Ext.ofN sr eN
  have sr1 := sr.ofN eN T1
  refine ⟨τ, m, S, _, _, sr1, er.mono sr e1, hf, fun m2 S2 H2 v d e2 sr2 r2 q => kk m2 S2 H2 _ _ (e1.trans e2) sr2 (.str _) q, fun m2 S2 H2 cls dd xx e2 sr2 rx q => ?_⟩
  dsimp only at q
  split at q
  · rename_i r hr
    obtain ⟨C, hC, rfl⟩ := rx.cls
    rw [hK]
    exact hw _ _ C hr hC Q H2 (kk m2 S2 H2 _ _ (e1.trans e2) sr2 (.str _) q)
  · exact q.elim
end
end Dx

set_option Elab.async false
set_option linter.all false
set_option maxRecDepth 100000
set_option maxHeartbeats 4000000
/-! DX, part 11: a def with its contract; the end of a law. -/
namespace Dx
open PySem PySem.Spec PyProof.Rows L2

/-- the module's def x keeps the contract c, by at most level k -/
def Has (P : Program) (w : World) (G : Gr) (base : Heap) (x : Str) (ps : List Str) (k : Nat) (c : Ct) : Prop :=
  ∃ (f : Addr) (fd : FuncData), FnOk P w G.K G.mg base (L2.CX P w) k f fd ps (spD G ps.length c) ∧ G.mg x = some (.ref f) ∧ PySem.W.keepIn G.K (.ref f) = true ∧
    (∀ (s : Shared) (us : List Value), us.length = ps.length → BindsTo s fd ⟨us, []⟩ (ps.zip us)) ∧ ∃ (oc : Value) (od : Option Addr) (osl : Array (Option Value)), G.K.lookup f = some ⟨oc, od, .func fd, osl⟩
theorem Has.mono {P : Program} {w : World} {G : Gr} {base : Heap} {x : Str} {ps : List Str} {j k : Nat} {c : Ct} (h : Has P w G base x ps j c) (hk : j ≤ k) : Has P w G base x ps k c :=
  let ⟨f, fd, a, b, d, e⟩ := h
  ⟨f, fd, a.mono hk, b, d, e⟩
/-- a contract that asks more -/
theorem spD_imp {G : Gr} {n : Nat} {c c' : Ct} (h : ∀ ds S Q E, c' ds S Q E → c ds S Q E) (vs : List V) (H : Hp) (Q : VK) (E : XK) (z : spD G n c' vs H Q E) : spD G n c vs H Q E := by
  obtain ⟨m, S, ds, QD, QE, sr, r, hl, hc, k, px⟩ := z
  exact ⟨m, S, ds, QD, QE, sr, r, hl, h _ _ _ _ hc, k, px⟩
theorem Has.imp {P : Program} {w : World} {G : Gr} {base : Heap} {x : Str} {ps : List Str} {k : Nat} {c c' : Ct} (h : Has P w G base x ps k c) (hc : ∀ ds S Q E, c' ds S Q E → c ds S Q E) : Has P w G base x ps k c' :=
  let ⟨f, fd, a, b, d, e⟩ := h
  ⟨f, fd, a.imp (fun vs H Q E z => spD_imp hc vs H Q E z), b, d, e⟩
section
variable {P : Program} {w : World} {G : Gr} {base : Heap} {x : Str} {N ps : List Str} {k : Nat} {c : Ct} {fs : FS} {st : Stmt} {f : Addr} {fd : FuncData}
/-- a def by its body -/
theorem has_of (D : FunD G.K x x (defArgs st) (defBody st) (defScope st) [] [] f fd) (hm : G.mg x = some (.ref f)) (S : FnScope N ps (defScope st))
    (hb : ∀ (kV doc pm : Value) (an : Option Addr) (cdv ct : Value) (us : List Value), us.length = ps.length → bindArgs (PySem.W.fnOf x x (defArgs st) (defBody st) (defScope st) Value.none kV doc pm an cdv ct) { pos := us } = pure (ps.zip us))
    (hbody : ∀ (cdv : Value) (A : Around) (outer : List PySem.Env) (s : Shared) (H : Hp) (E : XK), (∃ (oc : Value) (od : Option Addr) (fd : FuncData) (osl : Array (Option Value)), G.K.lookup f = some ⟨oc, od, .func fd, osl⟩ ∧ fd.code = cdv ∧ ∃ cc, cdv = .ref cc) → Room k (A.deeper (envOfC x (defScope st) s.heap.objs.size f cdv)) →
      PSs (cxOf (L2.CX P w) P w G.K G.mg base N x (defScope st) f cdv A outer s H E) (defBody st) (tS G (fun cls d _ H => E cls d H) fs))
    (hfs : ∀ ds S Q E, ds.length = ps.length → c ds S Q E → fs (bodyEnds Q E) (startE N ds) S) : Has P w G base x ps (k + 1) c := by
  have bnd := D.bindsA hb
  obtain ⟨⟨oc, od, dV, kV, doc, pm, an, cdv, ct, osl, rfl, lk, hcd', dfl, kwd⟩, kp⟩ := D
  exact ⟨f, _, fn_ok lk hcd' S rfl (fun A outer s H E hr => hbody cdv A outer s H E ⟨oc, od, _, osl, lk, rfl, He.codeIn_ref hcd'⟩ hr) hfs, hm, kp, bnd, _, _, _, lk⟩
end
/-- where nothing is asked -/
theorem has_never {P : Program} {w : World} {G : Gr} {base : Heap} {x : Str} {ps : List Str} {st : Stmt} {f : Addr} {fd : FuncData} (D : FunD G.K x x (defArgs st) (defBody st) (defScope st) [] [] f fd) (hm : G.mg x = some (.ref f))
    (hb : ∀ (kV doc pm : Value) (an : Option Addr) (cdv ct : Value) (us : List Value), us.length = ps.length → bindArgs (PySem.W.fnOf x x (defArgs st) (defBody st) (defScope st) Value.none kV doc pm an cdv ct) { pos := us } = pure (ps.zip us)) : Has P w G base x ps 0 (fun _ _ _ _ => False) := by
  have bnd := D.bindsA hb
  obtain ⟨⟨oc, od, dV, kV, doc, pm, an, cdv, ct, osl, rfl, lk, hcd', dfl, kwd⟩, kp⟩ := D
  exact ⟨f, _, ⟨fun vs H Q E ⟨_, _, _, _, _, _, _, _, z, _⟩ => z.elim, fun _ _ _ _ _ _ _ _ _ _ _ _ _ ⟨_, _, _, _, _, _, _, _, z, _⟩ => z.elim⟩, hm, kp, bnd, _, _, _, lk⟩
theorem never_sized {n : Nat} : Ct.sized (fun _ _ _ _ => False) n := fun _ _ _ _ h => h.elim
section
variable {G : Gr} {X : Cx} {W : WX} {k : Nat} {x : Str} {ps : List Str} {c : Ct} {p pos : Pos} {e : Expr} {es : List Expr} {fa : FG (List D)}
/-- x(..), x a def of the module -/
theorem e_fn (h : Has X.prog X.w G X.base x ps k c) (hK : X.K = G.K) (hM : X.mg = G.mg) (hc : Ct.sized c ps.length) (hr : Room k X.A) (hg : Gl X x) (tk : Takes X W)
    (ha : PA X (e :: es) (tA G W fa)) (hdb : (x == ("__debug__" : Str)) = false) (he : starEach (e :: es) X.env = (false, eval e X.env) :: starEach es X.env) (hpl : (backTo pos (starEach es X.env)).any (·.1) = false) :
    PE X (.Call (.Name x p) (e :: es) [] pos) (tE G W (bindF fa (callC c))) := by
  obtain ⟨f, fd, F, hm, kp, b, _⟩ := h
  rw [← hK, ← hM] at F
  exact e_call F hc hr hg (by rw [hM]; exact hm) (by rw [hK]; exact kp) (fun s us _ hl => by rw [List.append_nil] at hl ⊢; exact b s us hl) tk ha hdb he hpl
theorem e_fn0 (h : Has X.prog X.w G X.base x ps k c) (hK : X.K = G.K) (hM : X.mg = G.mg) (hc : Ct.sized c ps.length) (hr : Room k X.A) (hg : Gl X x) (tk : Takes X W) (hdb : (x == ("__debug__" : Str)) = false) :
    PE X (.Call (.Name x p) [] [] pos) (tE G W (callC c [])) := by
  obtain ⟨f, fd, F, hm, kp, b, _⟩ := h
  rw [← hK, ← hM] at F
  exact e_call0 F hc hr hg (by rw [hM]; exact hm) (by rw [hK]; exact kp) (fun s us _ hl => by rw [List.append_nil] at hl ⊢; exact b s us hl) tk hdb
/-- a number of the module -/
theorem e_glob {i : Int} {t : Tok} (hg : Gl X x) (hm : X.mg x = some (.int i t)) (hdb : (x == ("__debug__" : Str)) = false) : PE X (.Name x pos) (tE G W (retF (.int i))) :=
  e_const (v := .int i) (pe_glob hg hm ⟨t, rfl⟩ hdb) fun m H => .int i
end

/-! ### the end -/
/-- no list of the written part but plain ones -/
def plainL (K : PySem.W.Frag) : Bool := K.all fun q => match q.2 with
  | ⟨.type _, none, .seq _ _, sl⟩ => sl.isEmpty
  | _ => true
theorem plainL_ok {K : PySem.W.Frag} (h : plainL K = true) {H : Hp} {a : Addr} {xs : List V} (s : SqL K H a xs) : SqX K H a xs := by
  rcases s with s | ⟨o, its, n, lk, h1, h2, h3, h4, h5⟩
  · exact .inl s
  · obtain ⟨oc, od, dt, osl⟩ := o
    dsimp only at h1 h2 h3
    subst h1 h2 h3
    have q := List.all_eq_true.mp h _ (He.lookup_mem lk)
    have e : osl = #[] := Array.isEmpty_iff.mp q
    subst e
    exact .inr ⟨its.toList, n, by simpa using lk, by simpa using h4, by simpa using h5⟩
/-- a script as data -/
def scr (ns : List Int) : List D := ns.map .int
theorem repScr {G : Gr} {m : Mp} {H : Hp} : ∀ ns : List Int, RepAll G m H (ns.map V.int) (scr ns)
  | [] => .nil
  | n :: r => .cons (.int n) (repScr r)
def tabsOf (tf : List He.Defn) (K : PySem.W.Frag) : List (Addr × Str) := tf.map fun p => ((He.cT K p).2, p.1 ++ ".<locals>." ++ "<lambda>")
def dd (x : Str) (st : Stmt) : He.DefD := ⟨(x, none), x, x, defArgs st, defBody st, defScope st, [], []⟩
theorem defs_fun {fa : List He.Fa} {fn : List He.DefD} {K : PySem.W.Frag} (Y : He.SaysD fa fn K) {x : Str} {st : Stmt} (h : dd x st ∈ fn) : ∃ fd, FunD K x x (defArgs st) (defBody st) (defScope st) [] [] (He.ga K x) fd := Y.defs h
theorem dx_walk {l : PySem.W.OpenLaw} {n nn k : Nat} {q : Program} {loose : List Str} {XP : (Str → Option Value) → Heap → Prop} {d : DefRec} {fa : List He.Fa} {fn : List He.DefD} {tf : List He.Defn} {ex : PySem.W.Frag → Bool} {nm x : Str} {c : World → Gr → Ct} {st : Stmt}
    (hn : l.most = some n) (hn2 : n ≤ sizeLine) (hdf : d.params.defaults = []) (hnm : d.name = nm) (hr : Room k callerA) (hpl : ∀ K, ex K = true → plainL K = true) (hdl : dd nm st ∈ fn) (hgl : He.Fa.glo nm ∈ fa)
    (hb : ∀ (kV doc pm : Value) (an : Option Addr) (cdv ct : Value) (us : List Value), us.length = ([x] : List Str).length → bindArgs (PySem.W.fnOf nm nm (defArgs st) (defBody st) (defScope st) Value.none kV doc pm an cdv ct) { pos := us } = pure (([x] : List Str).zip us))
    (F : ∀ (w : World) (mg : Str → Option Value) (h : Heap) (K : PySem.W.Frag), K.In h → h.Ns mainGlobals mg → He.SaysX fa fn [] tf ex w h K → ∀ base : Heap, K.In base → base.Ns mainGlobals mg → (∀ p ∈ tf, LamX.TabB base mg (He.cT K p).1 (He.cT K p).2) →
      Has l.prog w ⟨K, mg, tabsOf tf K⟩ base nm [x] k (c w ⟨K, mg, tabsOf tf K⟩))
    (hc : ∀ (w : World) (G : Gr) (ns : List Int), ns.length ≤ n → (∀ z ∈ ns, Builtin.Int.intBits z ≤ 1048576) → c w G [.lst (scr ns)] [] (fun d _ => d = .bl true) noX) :
    PySem.W.WalkO q loose XP (He.hookX nn fa fn [] tf ex).says l.row.toRowW d [] (fun f vs => PySem.call f vs) := by
  subst hnm
  refine LamX.walk_ofTsE (CX := fun w => L2.CX l.prog w) (x := x) hn hn2 hdf hr (fun w mg fad h ⟨K, KX, Y⟩ G hmg => ⟨K, KX, ?_⟩) fun w H s e s' z => ?_
  · have key := F w mg h K KX G Y
    obtain ⟨fd, D⟩ := defs_fun Y.t.d hdl
    have hg2 := He.glo_ok KX G (Y.t.d.facts hgl)
    rw [hg2] at hmg
    cases hmg
    refine ⟨fd, tf.map (He.cT K), spD ⟨K, mg, tabsOf tf K⟩ 1 (c w ⟨K, mg, tabsOf tf K⟩), fun p hp => ?_, fun p hp => ?_, fun p hp => ?_, fun s u => D.bindsA hb s [u] rfl, fun H a ns hlen hbits hH hS => ?_, fun base Kb Gb hT => ?_⟩
    · obtain ⟨q, hq, rfl⟩ := List.mem_map.mp hp
      exact Y.empty q hq
    · obtain ⟨q, hq, rfl⟩ := List.mem_map.mp hp
      exact Y.out q hq
    · obtain ⟨q, hq, rfl⟩ := List.mem_map.mp hp
      exact PySem.W.codeHd_of_K KX (Y.hd q hq)
    · have tb : LamX.Tabs (tabsOf tf K) H := fun p hp => by
        obtain ⟨q, hq, rfl⟩ := List.mem_map.mp hp
        exact .nil (hH _ (List.mem_map.mpr ⟨q, hq, rfl⟩))
      refine ⟨⟨[], []⟩, [], [.lst (scr ns)], fun d _ => d = .bl true, noX, ⟨rfl, fun i j a h => (by cases h), fun i a o h => (by cases h), tb, fun i h => (by cases h), fun a h => (by cases h)⟩, ?_, rfl, hc w _ ns hlen hbits, fun m' S' H' v dd e sr r q => ?_, fun _ _ _ _ _ _ _ _ _ z => z.elim⟩
      · refine .cons ?_ .nil
        rcases plainL_ok (hpl K Y.more) hS with h | h
        · exact .lst h (by rintro (⟨i, z⟩ | z) <;> cases z) (repScr ns)
        · exact .klst h (repScr ns)
      · subst q
        cases r
        rfl
    · obtain ⟨f, fd2, F, hm, kp, b, oc, od, osl, lk⟩ := key base Kb Gb fun p hp => hT _ (List.mem_map.mpr ⟨p, hp, rfl⟩)
      have hm : mg d.name = some (.ref f) := hm
      rw [hg2] at hm
      cases hm
      obtain ⟨⟨oc', od', dV, kV, doc, pm, an, cdv, ct, osl', e, lk', hcd', dfl, kwd⟩, kp'⟩ := D
      have lk : K.lookup (He.ga K d.name) = _ := lk
      rw [lk'] at lk
      cases lk
      exact F
  · obtain ⟨_, _, _, _, _, _, _, _, _, _, _, _, z⟩ := z
    exact z.elim
end Dx

set_option Elab.async false
set_option linter.all false
set_option maxRecDepth 100000
set_option maxHeartbeats 4000000
/-! DX, part 12: the rules with their small premises filled in; short names for readings. -/
namespace Dx
open PySem PySem.Spec PyProof.Rows L2

/-! ### short names -/
abbrev binE (g : D → D → F) (fa fb : F) : F := bindF fa fun x => bindF fb fun y => g x y
abbrev idxE (fa fb : F) : F := bindF fa fun x => bindF fb fun y => idxF x y
abbrev slcE (mu : Bool) (fa : F) (fl fh : FG (Option Int)) : F := bindF fa fun x => bindF fl fun l => bindF fh fun h => slcF mu x l h
abbrev someI (fa : F) : FG (Option Int) := bindF fa intF
abbrev tupE (g : FG (List D)) : F := bindF g fun ds τ S Q E => ds.length ≤ sizeLine ∧ Q (.tup ds) S
abbrev lstE (mu : Bool) (g : FG (List D)) : F := bindF g fun ds τ S Q E => ds.length ≤ sizeLine ∧ newL mu ds τ S Q E
abbrev cmpT (g : D → D → F) (fa fb : F) : FG Bool := bindF fa fun x => bindF fb fun y => bindF (g x y) truF
abbrev truT (f : F) : FG Bool := bindF f truF
abbrev negE (f : F) : F := bindF f fun x => optF fun _ => match x with | .int i => some (.int (-i)) | _ => none
abbrev callE (c : Ct) (fa : FG (List D)) : F := bindF fa (callC c)
abbrev biE (g : List D → F) (fa : FG (List D)) : F := bindF fa g
abbrev itE (f : F) : FG Its' := bindF f itsF
abbrev int! (i : Int) : F := retF (.int i)
abbrev str! (x : Str) : F := retF (.str x)
abbrev non! : F := retF .non
abbrev bl! (b : Bool) : F := retF (.bl b)
abbrev ty! (n : String) : F := retF (.ty n)
abbrev frzE (f : F) : F := bindF f frzF
def fdivG (x y : D) : F := optF (o2I cDiv (fun i j => .int (i.fdiv j)) x y)
def modG (x y : D) : F := optF (o2I (fun _ j => !decide (j = 0)) (fun i j => .int (i.fmod j)) x y)
def powG (x y : D) : F := optF (o2I cPow (fun i j => .int (i ^ j.toNat)) x y)
def shlG (x y : D) : F := optF (o2I cPow (fun i j => .int (i * 2 ^ j.toNat)) x y)
def shrG (x y : D) : F := optF (o2I (fun _ j => decide (0 ≤ j)) (fun i j => .int (i / 2 ^ j.toNat)) x y)
def ltG (x y : D) : F := optF (o2I (fun _ _ => true) (fun i j => .bl (decide (i < j))) x y)
def leG (x y : D) : F := optF (o2I (fun _ _ => true) (fun i j => .bl (decide (i ≤ j))) x y)
def gtG (x y : D) : F := optF (o2I (fun _ _ => true) (fun i j => .bl (decide (j < i))) x y)
def geG (x y : D) : F := optF (o2I (fun _ _ => true) (fun i j => .bl (decide (j ≤ i))) x y)
def eqG (x y : D) : F := optF (eqO x y)
def neG (x y : D) : F := optF (neO x y)
def isG (x y : D) : F := optF (isO false x y)
def isnG (x y : D) : F := optF (isO true x y)
def inG (x y : D) : F := optF (inO false x y)
def ninG (x y : D) : F := optF (inO true x y)

/-! ### a def's context -/
abbrev FX (P : Program) (w : World) (G : Gr) (base : Heap) (N : List Str) (x : Str) (st : Stmt) (f : Addr) (cdv : Value) (A : Around) (outer : List PySem.Env) (s : Shared) (H : Hp) (E : XK) : Cx :=
  cxOf (L2.CX P w) P w G.K G.mg base N x (defScope st) f cdv A outer s H E
abbrev WEx (E : XK) : WX := fun cls d _ H => E cls d H
theorem tkF {P : Program} {w : World} {G : Gr} {base : Heap} {N : List Str} {x : Str} {st : Stmt} {f : Addr} {cdv : Value} {A : Around} {outer : List PySem.Env} {s : Shared} {H : Hp} {E : XK} : Takes (FX P w G base N x st f cdv A outer s H E) (WEx E) := takes_of rfl rfl rfl rfl
theorem poF {P : Program} {w : World} {G : Gr} {base : Heap} {N : List Str} {x : Str} {st : Stmt} {f : Addr} {cdv : Value} {A : Around} {outer : List PySem.Env} {s : Shared} {H : Hp} {E : XK} : PassesOwn (model (FX P w G base N x st f cdv A outer s H E).prog (FX P w G base N x st f cdv A outer s H E).w) (FX P w G base N x st f cdv A outer s H E).A (FX P w G base N x st f cdv A outer s H E).env (FX P w G base N x st f cdv A outer s H E).xe := passes_of rfl

/-! ### small premises -/
def visB (sc : Scope) (x : Str) : Bool := match sc.names.lookup x with
  | some .local | some .cell | some .free => true
  | _ => false
theorem visB_ok {sc : Scope} {x : Str} (h : visB sc x = true) : Vis sc x := by
  unfold visB at h
  split at h
  · exact .inl (by assumption)
  · exact .inr (.inl (by assumption))
  · exact .inr (.inr (by assumption))
  · cases h
def locB (sc : Scope) (x : Str) : Bool := match sc.names.lookup x with
  | some .local | some .cell => true
  | _ => false
theorem locB_ok {sc : Scope} {x : Str} (h : locB sc x = true) : Loc sc x := by
  unfold locB at h
  split at h
  · exact .inl (by assumption)
  · exact .inr (by assumption)
  · cases h
def fnB (X : Cx) (x : Str) : Bool := X.fn x || (match X.env.scope.names.lookup x with | some .local => true | _ => false)
theorem fnB_ok {X : Cx} {x : Str} (h : fnB X x = true) : X.fn x = true ∨ X.env.scope.names.lookup x = some .local := by
  unfold fnB at h
  simp only [Bool.or_eq_true] at h
  rcases h with h | h
  · exact .inl h
  · split at h
    · exact .inr (by assumption)
    · cases h
theorem ne_of_b {x : Str} (h : (x == ("__name__" : Str)) = false) : x ≠ "__name__" := fun e => by rw [e] at h; exact absurd h (by decide)
section
variable {G : Gr} {X : Cx} {W : WX} {a b c e : Expr} {es rest : List Expr} {pos p p2 : Pos} {x : Str} {fa fb fc : F} {g g' : D → D → F} {fl : FG (List D)} {ta tb tc : FG Bool}
/-! ### expressions -/
theorem xv (i : Nat) (hN : X.N[i]? = some x := by kernel_rfl) (hv : visB X.env.scope x = true := by kernel_rfl) (hd : (x == ("__debug__" : Str)) = false := by kernel_rfl) (hcd : (x == ("__classdict__" : Str)) = false := by kernel_rfl) :
    PE X (.Name x pos) (tE G W (varF i)) := e_var hN (visB_ok hv) hd hcd
theorem xi {i : Int} {j} : PE X (.Constant (.int i) j pos) (tE G W (int! i)) := e_const pe_int fun _ _ => .int _
theorem xs {y : Str} {j} : PE X (.Constant (.str y) j pos) (tE G W (str! y)) := e_const pe_str fun _ _ => .str _
theorem xn {j} : PE X (.Constant .none j pos) (tE G W non!) := e_const pe_non fun _ _ => .non
theorem xb {b : Bool} {j} : PE X (.Constant (.bool b) j pos) (tE G W (bl! b)) := e_const pe_bl fun _ _ => .bl _
theorem xneg (h : PE X a (tE G W fa)) : PE X (.UnaryOp .USub a pos) (tE G W (negE fa)) := e_neg h
/-- a module's number -/
theorem xg {i : Int} (hm : ∃ t, G.mg x = some (.int i t)) (hM : X.mg = G.mg := by rfl) (hg : Gl X x := by unfold Gl; kernel_rfl) (hd : (x == ("__debug__" : Str)) = false := by kernel_rfl) : PE X (.Name x pos) (tE G W (int! i)) :=
  let ⟨_, h⟩ := hm
  e_glob hg (by rw [hM]; exact h) hd
theorem xstr {z : Str} (hm : ∃ t, G.mg x = some (.str z t)) (hM : X.mg = G.mg := by rfl) (hg : Gl X x := by unfold Gl; kernel_rfl) (hd : (x == ("__debug__" : Str)) = false := by kernel_rfl) : PE X (.Name x pos) (tE G W (str! z)) :=
  let ⟨t, h⟩ := hm
  e_const (v := .str z) (pe_glob hg (by rw [hM]; exact h) ⟨t, rfl⟩ hd) fun _ _ => .str _
/-- a built-in class as a value -/
theorem xty {T : String} (hm : G.mg x = none) (hM : X.mg = G.mg := by rfl) (hg : Gl X x := by unfold Gl; kernel_rfl) (hv : bootBuiltins x = some (.type T) := by kernel_rfl) (hn : (x == ("__name__" : Str)) = false := by kernel_rfl) (hd : (x == ("__debug__" : Str)) = false := by kernel_rfl) :
    PE X (.Name x pos) (tE G W (ty! T)) := e_const (v := .ty T) (pe_bltn hg (by rw [hM]; exact hm) hv rfl (ne_of_b hn) hd) fun _ _ => .ty _
theorem xbin {op : Operator} (ho : OpF G X (binaryOp op) g) (ha : PE X a (tE G W fa)) (hb : PE X b (tE G W fb)) : PE X (.BinOp a op b pos) (tE G W (binE g fa fb)) := e_bin ho ha hb
theorem xcmp {op : CmpOp} (ho : OpF G X (compareOp op) g) (ha : PE X a (tE G W fa)) (hb : PE X b (tE G W fb)) (hm : behindInMarks op b = false := by kernel_rfl) : PE X (.Compare a [op] [b] pos) (tE G W (binE g fa fb)) := e_cmp ho ha hb hm
theorem xch {op op' : CmpOp} (ho : OpF G X (compareOp op) g) (ho' : OpF G X (compareOp op') g') (ha : PE X a (tE G W fa)) (hb : PE X b (tE G W fb)) (hc : PE X c (tE G W fc)) (hm : lastMarks [op, op'] [b, c] = false := by kernel_rfl) :
    PE X (.Compare a [op, op'] [b, c] pos) (tE G W (chF g g' fa fb fc)) := e_chain ho ho' ha hb hc hm
theorem xix (ha : PE X a (tE G W fa)) (hb : PE X b (tE G W fb)) (hK : X.K = G.K := by rfl) (hs : PlainIx b := by unfold PlainIx; intros; kernel_rfl) : PE X (.Subscript a b pos) (tE G W (idxE fa fb)) := e_idx hK ha hb hs
theorem xsl {lo hi : Option Expr} {ol oh : FG (Option Int)} (mu : Bool) (ha : PE X a (tE G W fa)) (hl : PO X lo (tO G W ol)) (hh : PO X hi (tO G W oh)) (hK : X.K = G.K := by rfl) : PE X (.Subscript a (.Slice lo hi none p2) pos) (tE G W (slcE mu fa ol oh)) := e_slc hK mu ha hl hh
theorem on : PO X none (tO G W noF) := o_none
theorem os (h : PE X e (tE G W fa)) : PO X (some e) (tO G W (someI fa)) := o_some h
theorem xnil : PA X [] (tA G W nilF) := a_nil
theorem xcons (ha : PE X e (tE G W fa)) (hr : PA X es (tA G W fl)) (hs : starEach (e :: es) X.env = (false, eval e X.env) :: starEach es X.env := by kernel_rfl) : PA X (e :: es) (tA G W (consF fa fl)) := a_cons ha hr hs
theorem xtup {x1} (h : PA X es (tA G W fl)) : PE X (.Tuple es x1 pos) (tE G W (tupE fl)) := e_tup h
theorem xlst (mu : Bool) (h : PA X es (tA G W fl)) : PE X (.List es pos) (tE G W (lstE mu fl)) := e_lst mu h
theorem xfn {ps : List Str} {k j : Nat} {c : Ct} (h : Has X.prog X.w G X.base x ps j c) (hc : Ct.sized c ps.length) (hr : Room k X.A) (hj : j ≤ k) (tk : Takes X W) (ha : PA X (e :: es) (tA G W fl)) (hK : X.K = G.K := by rfl) (hM : X.mg = G.mg := by rfl) (hg : Gl X x := by unfold Gl; kernel_rfl)
    (hd : (x == ("__debug__" : Str)) = false := by kernel_rfl) (he : starEach (e :: es) X.env = (false, eval e X.env) :: starEach es X.env := by kernel_rfl) (hpl : (backTo pos (starEach es X.env)).any (·.1) = false := by kernel_rfl) :
    PE X (.Call (.Name x p) (e :: es) [] pos) (tE G W (callE c fl)) := e_fn h hK hM hc (hr.mono hj) hg tk ha hd he hpl
theorem xfn0 {ps : List Str} {k j : Nat} {c : Ct} (h : Has X.prog X.w G X.base x ps j c) (hc : Ct.sized c ps.length) (hr : Room k X.A) (hj : j ≤ k) (tk : Takes X W) (hK : X.K = G.K := by rfl) (hM : X.mg = G.mg := by rfl) (hg : Gl X x := by unfold Gl; kernel_rfl)
    (hd : (x == ("__debug__" : Str)) = false := by kernel_rfl) : PE X (.Call (.Name x p) [] [] pos) (tE G W (callC c [])) := e_fn0 h hK hM hc (hr.mono hj) hg tk hd
theorem xcB {id : String} {gb : List D → F} (hc : BF G X (.builtin id) gb) (hm : G.mg x = none) (ha : PA X (e :: es) (tA G W fl)) (hM : X.mg = G.mg := by rfl) (hg : Gl X x := by unfold Gl; kernel_rfl) (hv : bootBuiltins x = some (.builtin id) := by kernel_rfl) (hn : (x == ("__name__" : Str)) = false := by kernel_rfl)
    (hd : (x == ("__debug__" : Str)) = false := by kernel_rfl) (he : starEach (e :: es) X.env = (false, eval e X.env) :: starEach es X.env := by kernel_rfl) (hpl : (backTo pos (starEach es X.env)).any (·.1) = false := by kernel_rfl) :
    PE X (.Call (.Name x p) (e :: es) [] pos) (tE G W (biE gb fl)) := e_callB hc hg (by rw [hM]; exact hm) hv ha (ne_of_b hn) hd he hpl
theorem xcT {T : String} {gb : List D → F} (hc : BF G X (.type T) gb) (hm : G.mg x = none) (ha : PA X (e :: es) (tA G W fl)) (hM : X.mg = G.mg := by rfl) (hg : Gl X x := by unfold Gl; kernel_rfl) (hv : bootBuiltins x = some (.type T) := by kernel_rfl) (hn : (x == ("__name__" : Str)) = false := by kernel_rfl)
    (hd : (x == ("__debug__" : Str)) = false := by kernel_rfl) (he : starEach (e :: es) X.env = (false, eval e X.env) :: starEach es X.env := by kernel_rfl) (hpl : (backTo pos (starEach es X.env)).any (·.1) = false := by kernel_rfl) :
    PE X (.Call (.Name x p) (e :: es) [] pos) (tE G W (biE gb fl)) := e_callTy hc hg (by rw [hM]; exact hm) hv ha (ne_of_b hn) hd he hpl
theorem xcF {id : String} {gb : List D → F} (hc : BF G X (.builtin id) gb) (hm : G.mg x = some (.builtin id)) (ha : PA X (e :: es) (tA G W fl)) (hM : X.mg = G.mg := by rfl) (hg : Gl X x := by unfold Gl; kernel_rfl)
    (hd : (x == ("__debug__" : Str)) = false := by kernel_rfl) (he : starEach (e :: es) X.env = (false, eval e X.env) :: starEach es X.env := by kernel_rfl) (hpl : (backTo pos (starEach es X.env)).any (·.1) = false := by kernel_rfl) :
    PE X (.Call (.Name x p) (e :: es) [] pos) (tE G W (biE gb fl)) := e_callBfun hc hg (by rw [hM]; exact hm) ha hd he hpl
theorem xand (ha : PE X a (tE G W fa)) (hb : PE X (.BoolOp .And (b :: rest) pos) (tE G W fb)) (hK : X.K = G.K := by rfl) : PE X (.BoolOp .And (a :: b :: rest) pos) (tE G W (andV fa fb)) := e_andV hK ha hb
theorem xor' (ha : PE X a (tE G W fa)) (hb : PE X (.BoolOp .Or (b :: rest) pos) (tE G W fb)) (hK : X.K = G.K := by rfl) : PE X (.BoolOp .Or (a :: b :: rest) pos) (tE G W (orV fa fb)) := e_orV hK ha hb
theorem xone {op} (h : PE X a (tE G W fa)) : PE X (.BoolOp op [a] pos) (tE G W fa) := pe_one h
theorem xnot (ha : PE X a (tE G W fa)) (hK : X.K = G.K := by rfl) : PE X (.UnaryOp .Not a pos) (tE G W (notV fa)) := e_notV hK ha
theorem xife (hc : PT X c (tT G W tc)) (ha : PE X a (tE G W fa)) (hb : PE X b (tE G W fb)) : PE X (.IfExp c a b pos) (tE G W (iteV tc fa fb)) := e_ife hc ha hb
/-! ### tests -/
theorem tt (ha : PE X a (tE G W fa)) (hK : X.K = G.K := by rfl) (he : ∀ whole, isTrue a X.env whole = (do let v ← whole; standAt a.pos; holding [v] (truthy v)) := by intros; kernel_rfl) : PT X a (tT G W (truT fa)) := t_truth hK ha he
def BlG (g : D → D → F) : Prop := ∀ x y τ S Q E, g x y τ S Q E → g x y τ S (fun d S' => ∃ b, d = .bl b ∧ Q d S') E
theorem tcmp {op : CmpOp} (ho : OpF G X (compareOp op) g) (hg : BlG g) (ha : PE X a (tE G W fa)) (hb : PE X b (tE G W fb)) (hm : behindInMarks op b = false := by kernel_rfl) : PT X (.Compare a [op] [b] pos) (tT G W (cmpT g fa fb)) := t_cmp ho hg ha hb hm
theorem tch {op op' : CmpOp} (ho : OpF G X (compareOp op) g) (ho' : OpF G X (compareOp op') g') (hg' : BlG g') (ha : PE X a (tE G W fa)) (hb : PE X b (tE G W fb)) (hc : PE X c (tE G W fc)) (hm : lastMarks [op, op'] [b, c] = false := by kernel_rfl) :
    PT X (.Compare a [op, op'] [b, c] pos) (tT G W (chT g g' fa fb fc)) := t_chain ho ho' hg' ha hb hc hm
theorem tnot (ha : PT X a (tT G W ta)) : PT X (.UnaryOp .Not a pos) (tT G W (notF ta)) := t_not ha
theorem wa1 (ha : PT X a (tT G W ta)) : PW X (.BoolOp .And [a] pos) (tT G W ta) := w_one_and ha
theorem wo1 (ha : PT X a (tT G W ta)) : PW X (.BoolOp .Or [a] pos) (tT G W ta) := w_one_or ha
theorem wa (ha : PT X a (tT G W ta)) (hb : PW X (.BoolOp .And (b :: rest) pos) (tT G W tb)) : PW X (.BoolOp .And (a :: b :: rest) pos) (tT G W (andF ta tb)) := w_and ha hb
theorem wo (ha : PT X a (tT G W ta)) (hb : PW X (.BoolOp .Or (b :: rest) pos) (tT G W tb)) : PW X (.BoolOp .Or (a :: b :: rest) pos) (tT G W (orF ta tb)) := w_or ha hb
end

/-! ### operators -/
theorem optF_bl {o : Store → Option D} {τ : Env} {S : Store} {Q : D → Store → Prop} {E : QX} (h : ∀ d, o S = some d → ∃ b, d = .bl b) (q : optF o τ S Q E) : optF o τ S (fun d S' => ∃ b, d = .bl b ∧ Q d S') E := by
  unfold optF at q ⊢
  cases e : o S with
  | none => rw [e] at q; exact q.elim
  | some d =>
    rw [e] at q
    obtain ⟨b, rfl⟩ := h _ e
    exact ⟨b, rfl, q⟩
theorem bl_opt {o : D → D → Store → Option D} (h : ∀ x y S d, o x y S = some d → ∃ b, d = .bl b) : BlG fun x y => optF (o x y) := fun x y τ S Q E q => optF_bl (h x y S) q
theorem bl_o2I {C : Int → Int → Bool} {f : Int → Int → Bool} : BlG fun x y => optF (o2I C (fun i j => .bl (f i j)) x y) := bl_opt fun x y S d h => by
  unfold o2I at h
  split at h
  · split at h
    · cases h; exact ⟨_, rfl⟩
    · cases h
  · cases h
theorem bl_lt : BlG ltG := bl_o2I
theorem bl_le : BlG leG := bl_o2I
theorem bl_gt : BlG gtG := bl_o2I
theorem bl_ge : BlG geG := bl_o2I
theorem bl_eq : BlG eqG := bl_opt fun x y S d h => by unfold eqO at h; split at h <;> cases h; exact ⟨_, rfl⟩
theorem bl_ne : BlG neG := bl_opt fun x y S d h => by unfold neO at h; split at h <;> cases h; exact ⟨_, rfl⟩
theorem isO_bl {neg : Bool} (x y : D) (S : Store) (d : D) (h : isO neg x y S = some d) : ∃ b, d = .bl b := by
  unfold isO at h
  split at h <;> first | (cases h; exact ⟨_, rfl⟩) | (split at h <;> cases h; exact ⟨_, rfl⟩) | cases h
theorem inO_bl {neg : Bool} (x y : D) (S : Store) (d : D) (h : inO neg x y S = some d) : ∃ b, d = .bl b := by
  unfold inO at h
  split at h
  · split at h
    · cases h; exact ⟨_, rfl⟩
    · cases h
  · cases h
theorem bl_is : BlG isG := bl_opt isO_bl
theorem bl_isn : BlG isnG := bl_opt isO_bl
theorem bl_in : BlG inG := bl_opt inO_bl
theorem bl_nin : BlG ninG := bl_opt inO_bl
theorem Room.u64 {k : Nat} {A : Around} (r : Room k A) : A.units + 64 < cLine := by have := r.un; omega
theorem Room.u65 {k : Nat} {A : Around} (r : Room k A) : A.units + 65 < cLine := by have := r.un; omega
section
variable {G : Gr} {X : Cx}
theorem ofdiv : OpF G X (binaryOp .FloorDiv) fdivG := opd_fdiv
theorem omod : OpF G X (binaryOp .Mod) modG := opd_mod
theorem opow : OpF G X (binaryOp .Pow) powG := opd_pow
theorem oshl : OpF G X (binaryOp .LShift) shlG := opd_shl
theorem oshr : OpF G X (binaryOp .RShift) shrG := opd_shr
theorem olt : OpF G X (compareOp .Lt) ltG := opd_lt
theorem ole : OpF G X (compareOp .LtE) leG := opd_le
theorem ogt : OpF G X (compareOp .Gt) gtG := opd_gt
theorem oge : OpF G X (compareOp .GtE) geG := opd_ge
theorem oeq {k : Nat} (hr : Room k X.A) (hK : X.K = G.K := by rfl) : OpF G X (compareOp .Eq) eqG := opd_eq hK (Room.u64 hr)
theorem one' {k : Nat} (hr : Room k X.A) (hK : X.K = G.K := by rfl) : OpF G X (compareOp .NotEq) neG := opd_ne hK (Room.u64 hr)
theorem ois : OpF G X (compareOp .Is) isG := opd_is
theorem oisn : OpF G X (compareOp .IsNot) isnG := opd_isnot
theorem oin {k : Nat} (hr : Room k X.A) (hK : X.K = G.K := by rfl) : OpF G X (compareOp .In) inG := opd_in hK (Room.u65 hr)
theorem onin {k : Nat} (hr : Room k X.A) (hK : X.K = G.K := by rfl) : OpF G X (compareOp .NotIn) ninG := opd_notIn hK (Room.u65 hr)
theorem oadd (mu : Bool) (hK : X.K = G.K := by rfl) : OpF G X (binaryOp .Add) (addF mu) := opf_add hK mu
theorem osub : OpF G X (binaryOp .Sub) subF := opf_sub
theorem omul (mu : Bool) (hK : X.K = G.K := by rfl) : OpF G X (binaryOp .Mult) (mulF mu) := opf_mul hK mu
end
section
variable {G : Gr} {X : Cx} {W : WX} {e tg it elt : Expr} {ifs : List Expr} {pos p p2 pos' : Pos} {x : Str} {fe : F} {fl : FG (List D)} {t : Tg} {f : FS}
/-! ### statements -/
theorem sset (i : Nat) (nd : X.N.Nodup) (he : PE X e (tE G W fe)) (hi : X.N[i]? = some x := by kernel_rfl) (hx : locB X.env.scope x = true := by kernel_rfl) (hs : swapsWith e (some (.Name x pos')) pos.line X.env = pure false := by kernel_rfl) (hf : fnB X x = true := by kernel_rfl) :
    PS X (.Assign [.Name x pos'] e pos) (tS G W (setS i fe)) := s_set nd hi (locB_ok hx) he hs (fnB_ok hf)
theorem sexpr (he : PE X e (tE G W fe)) (hs : swapsWith e none pos.line X.env = pure false := by kernel_rfl) : PS X (.Expr e pos) (tS G W (exprS fe)) := s_expr he hs
theorem gname (i : Nat) (nd : X.N.Nodup) (hi : X.N[i]? = some x := by kernel_rfl) (hx : locB X.env.scope x = true := by kernel_rfl) (hf : fnB X x = true := by kernel_rfl) : GOk G X (.Name x pos) (.name i) := g_name nd hi (locB_ok hx) (fnB_ok hf)
theorem gcons {es : List Expr} {ts : List Tg} (h1 : GOk G X e t) (h2 : GsOk G X es ts) (hs : (assignEach (e :: es) X.env).map (·.2) = assign e X.env :: (assignEach es X.env).map (·.2) := by kernel_rfl) : GsOk G X (e :: es) (t :: ts) := gs_cons h1 h2 hs
theorem gtup {es : List Expr} {kk : Nat} {ts : List Tg} {n : Nat} (h : GsOk G X es ts) (hK : X.K = G.K := by rfl) (hc : X.calm = true := by rfl) (hl : ts.length = n := by rfl) (hn : (assignEach es X.env).length = n := by kernel_rfl) (hst : (assignEach es X.env).findIdx? (·.1) = none := by kernel_rfl) :
    GOk G X (.Tuple es kk pos) (.tup ts) := g_tup hK hc h hl hn hst
theorem sasg (he : PE X e (tE G W fe)) (hg : GOk G X tg t) (hs : swapsWithSole [tg] e pos.line X.env = pure false := by kernel_rfl) (hw : swappedStores [tg] e X.env = pure none := by kernel_rfl) (h1 : (assignEach [tg] X.env).map (·.2) = [assign tg X.env] := by kernel_rfl) :
    PS X (.Assign [tg] e pos) (tS G W (asgS t fe)) := s_asg he hg hs hw h1
theorem sub' {o i : Expr} {fo fi : F} {sp : Pos} (he : PE X e (tE G W fe)) (ho : PE X o (tE G W fo)) (hi : PE X i (tE G W fi))
    (ha : ∀ v, assign (.Subscript o i sp) X.env v = (do
      let ov ← holding [v] (eval o X.env)
      let iv ← holding [v, ov] (eval i X.env)
      standAt sp
      holding [v, ov, iv] (setItem ov iv v)
      release [v, ov, iv] []) := by intros; kernel_rfl)
    (hs : swapsWithSole [.Subscript o i sp] e pos.line X.env = pure false := by kernel_rfl) (hw : swappedStores [.Subscript o i sp] e X.env = pure none := by kernel_rfl) (h1 : (assignEach [.Subscript o i sp] X.env).map (·.2) = [assign (.Subscript o i sp) X.env] := by kernel_rfl) :
    PS X (.Assign [.Subscript o i sp] e pos) (tS G W (subS fe fo fi)) := s_sub he ho hi ha hs hw h1
theorem sfor {body : List Stmt} {fi : FG Its'} (hp : PassesOwn (model X.prog X.w) X.A X.env X.xe) (hi : PI X tg it (tI G W fi)) (hg : GOk G X tg t) (hb : PSs X body (tS G W f)) (hc : X.calm = true := by rfl) (hs : ∀ x, foldedSetIterable it X.env x = pure x := by intros; kernel_rfl) :
    PS X (.For tg it body [] pos) (tS G W (forS fi t f)) := s_for hp hc hi hg hb hs
theorem spar {x y : Str} {a b : Expr} {px py pt : Pos} {kt k2 pt2} (i j : Nat) (nd : X.N.Nodup) (ha : PA X [a, b] (tA G W fl)) (hc : X.calm = true := by rfl) (hi : X.N[i]? = some x := by kernel_rfl) (hj : X.N[j]? = some y := by kernel_rfl) (hij : i ≠ j := by decide)
    (hx : X.env.scope.names.lookup x = some .local := by kernel_rfl) (hy : X.env.scope.names.lookup y = some .local := by kernel_rfl)
    (hw : swappedStores [.Tuple [.Name x px, .Name y py] kt pt] (.Tuple [a, b] k2 pt2) X.env = pure (some [x, y]) := by kernel_rfl)
    (hs : swapsWithSole [.Tuple [.Name x px, .Name y py] kt pt] (.Tuple [a, b] k2 pt2) pos.line X.env = pure false := by kernel_rfl) :
    PS X (.Assign [.Tuple [.Name x px, .Name y py] kt pt] (.Tuple [a, b] k2 pt2) pos) (tS G W (parS i j fl)) := s_par hc nd hi hj hij hx hy ha hw hs
/-- an exception's class of the module -/
structure ExcK (G : Gr) (x : Str) : Prop where
  ex : ∃ C, G.mg x = some (.ref C) ∧ PySem.W.excIn G.K C He.veBase "ValueError.__new__" = true ∧ PySem.W.keepIn G.K (.ref C) = true ∧ PySem.W.subIn G.K (.ref C) (.type "BaseException") = some true ∧ PySem.W.typeIn G.K (.ref C) = some (.type "type")
theorem sraise {m : Str} {j : Nat} {p pos2 : Pos} (T : ExcK G x) (tk : Takes X W) (hK : X.K = G.K := by rfl) (hM : X.mg = G.mg := by rfl) (hc : X.calm = true := by rfl) (hg : Gl X x := by unfold Gl; kernel_rfl) (hd : (x == ("__debug__" : Str)) = false := by kernel_rfl) :
    PS X (.Raise (some (.Call (.Name x p) [.Constant (.str m) j p2] [] pos)) none pos2) (tS G W (raiseS x)) := by
  obtain ⟨C, h1, h2, h3, h4, h5⟩ := T.ex
  exact s_raise hM hc tk PySem.F.excBase_ValueError (by rw [hK]; exact h2) (by rw [hM]; exact h1) (by rw [hK]; exact h3) (raises_own (by rw [hK]; exact h4) (by rw [hK]; exact h5)) hg hd
end
/-! ### walked things, comprehensions -/
section
variable {G : Gr} {X : Cx} {W : WX} {tg e a b c : Expr} {es : List Expr} {pos p : Pos} {fe fa fb : F} {fl : FG (List D)}
theorem ival (he : PE X e (tE G W fe)) (hK : X.K = G.K := by rfl) : PI X tg e (tI G W (itE fe)) := i_val hK he
theorem irng1 (hm : G.mg "range" = none) (ha : PA X [a] (tA G W fl)) (hM : X.mg = G.mg := by rfl) (hg : Gl X "range" := by unfold Gl; kernel_rfl) (hs : starEach [a] X.env = [(false, eval a X.env)] := by kernel_rfl) : PI X tg (.Call (.Name "range" p) [a] [] pos) (tI G W (bindF fl rng1)) := i_rng1 hg (by rw [hM]; exact hm) ha hs
theorem irng2 (hm : G.mg "range" = none) (ha : PA X [a, b] (tA G W fl)) (hM : X.mg = G.mg := by rfl) (hg : Gl X "range" := by unfold Gl; kernel_rfl) (hs : starEach [a, b] X.env = [(false, eval a X.env), (false, eval b X.env)] := by kernel_rfl) (hs2 : starEach [b] X.env = [(false, eval b X.env)] := by kernel_rfl) :
    PI X tg (.Call (.Name "range" p) [a, b] [] pos) (tI G W (bindF fl rng2)) := i_rng2 hg (by rw [hM]; exact hm) ha hs hs2
theorem irng3 (hm : G.mg "range" = none) (ha : PA X [a, b, c] (tA G W fl)) (hM : X.mg = G.mg := by rfl) (hg : Gl X "range" := by unfold Gl; kernel_rfl) (hs : starEach [a, b, c] X.env = (false, eval a X.env) :: starEach [b, c] X.env := by kernel_rfl) (hpl : (backTo pos (starEach [b, c] X.env)).any (·.1) = false := by kernel_rfl) :
    PI X tg (.Call (.Name "range" p) [a, b, c] [] pos) (tI G W (bindF fl rng3)) := i_rng3 hg (by rw [hM]; exact hm) ha hs hpl
end
/-- the contexts of a comprehension's block -/
abbrev BI := Shared × Hp × Addr × List (Str × Addr) × List Addr
abbrev BX (X : Cx) (scope : Scope) (i : BI) : Cx := X.blk i.1 i.2.1 scope (compEnvC scope i.2.2.2.1 i.2.2.1 X.env) i.2.2.2.2
def GOkF (G : Gr) (XF : BI → Cx) (target : Expr) (t : Tg) : Prop :=
  ∃ g : TG, (∀ i, PG (XF i) target g) ∧ ∀ (m : Mp) (S : Store) (H : Hp) (σ : L2.St) (τ τ' : Env) (v : V) (d : D) (Q : L2.St → Hp → Prop), SR G m S H → EnvR G m H σ τ → Rep G m H v d → bindT t d τ = some τ' → (∀ σ', EnvR G m H σ' τ' → SameBut (slotsT t) σ σ' → Q σ' H) → g v σ H Q
def GsOkF (G : Gr) (XF : BI → Cx) (es : List Expr) (ts : List Tg) : Prop :=
  ∃ g : TGs, (∀ i, PGs (XF i) es g) ∧ ∀ (m : Mp) (S : Store) (H : Hp) (σ : L2.St) (τ τ' : Env) (vs : List V) (ds : List D) (Q : L2.St → Hp → Prop), SR G m S H → EnvR G m H σ τ → RepAll G m H vs ds → bindTs ts ds τ = some τ' → (∀ σ', EnvR G m H σ' τ' → SameBut (slotsTs ts) σ σ' → Q σ' H) → g vs σ H Q
section
variable {G : Gr} {XF : BI → Cx} {pos : Pos}
theorem gnameF {x : Str} (i : Nat) (nd : ∀ b, (XF b).N.Nodup) (hi : ∀ b, (XF b).N[i]? = some x := by intro; kernel_rfl) (hx : ∀ b, locB (XF b).env.scope x = true := by intro; kernel_rfl) (hf : ∀ b, fnB (XF b) x = true := by intro; kernel_rfl) : GOkF G XF (.Name x pos) (.name i) :=
  ⟨gName i, fun b => pg_name (nd b) (hi b) (locB_ok (hx b)) (fnB_ok (hf b)), fun m S H σ τ τ' v d Q sr er r h k => by
    simp only [bindT] at h
    cases h
    exact k _ (er.set r i) ⟨by simp, fun j hj => List.getElem?_set_ne (fun e => hj (by simp [slotsT, e]))⟩⟩
theorem gnilF : GsOkF G XF [] [] :=
  ⟨gNil, fun _ => pgs_nil, fun m S H σ τ τ' vs ds Q sr er r h k => by
    cases r with
    | nil => simp only [bindTs] at h; cases h; exact ⟨rfl, k σ er ⟨rfl, fun _ _ => rfl⟩⟩
    | cons a r => simp only [bindTs] at h; cases h⟩
theorem gconsF {e : Expr} {es : List Expr} {t : Tg} {ts : List Tg} (h1 : GOkF G XF e t) (h2 : GsOkF G XF es ts) (hs : ∀ b, (assignEach (e :: es) (XF b).env).map (·.2) = assign e (XF b).env :: (assignEach es (XF b).env).map (·.2) := by intro; kernel_rfl) : GsOkF G XF (e :: es) (t :: ts) := by
  obtain ⟨g1, p1, k1⟩ := h1
  obtain ⟨g2, p2, k2⟩ := h2
  refine ⟨gCons g1 g2, fun b => pgs_cons (p1 b) (p2 b) (hs b), fun m S H σ τ τ' vs ds Q sr er r h k => ?_⟩
  cases r with
  | nil => simp only [bindTs] at h; cases h
  | cons a r =>
    simp only [bindTs] at h
    obtain ⟨τ1, h3, h4⟩ := Option.bind_eq_some_iff.mp h
    exact ⟨_, _, rfl, k1 m S H σ τ τ1 _ _ _ sr er a h3 fun σ1 er1 s1 => k2 m S H σ1 τ1 τ' _ _ Q sr er1 r h4 fun σ2 er2 s2 => k σ2 er2 (s1.trans s2)⟩
theorem gtupF {es : List Expr} {kk : Nat} {ts : List Tg} {n : Nat} (h : GsOkF G XF es ts) (hK : ∀ b, (XF b).K = G.K := by intro; rfl) (hc : ∀ b, (XF b).calm = true := by intro; rfl) (hl : ts.length = n := by rfl) (hn : ∀ b, (assignEach es (XF b).env).length = n := by intro; kernel_rfl)
    (hst : ∀ b, (assignEach es (XF b).env).findIdx? (·.1) = none := by intro; kernel_rfl) : GOkF G XF (.Tuple es kk pos) (.tup ts) := by
  obtain ⟨g, p, k⟩ := h
  refine ⟨gTup G.K n g, fun b => by rw [← hK b]; exact pg_tup (hc b) (p b) (hn b) (hst b), fun m S H σ τ τ' v d Q sr er r h kk => ?_⟩
  cases d with
  | tup ds =>
    simp only [bindT] at h
    obtain ⟨a, xs, rfl, t1, ra⟩ := r.getT rfl
    refine ⟨a, xs, rfl, t1, ?_, k m S H σ τ τ' xs ds Q sr er ra h fun σ' e s => kk σ' e (by simpa [slotsT] using s)⟩
    rw [ra.length, ← bindTs_len ts ds τ τ' h, hl]
  | _ => simp [bindT] at h
end
section
variable {G : Gr} {X : Cx} {W : WX} {elt tg iter : Expr} {ifs : List Expr} {scope : Scope} {pos pos' spos : Pos} {t : Tg} {ft : FG Bool} {fe : F} {fi : FG Its'}
theorem blkE (hg : GOkF G (BX X scope) tg t) (hts : ∀ b, PTs (BX X scope b) ifs (tT G W0 ft)) (hel : ∀ b, PE (BX X scope b) elt (tE G W0 fe)) : BlkE G X tg elt ifs scope t ft fe := by
  obtain ⟨g, p, k⟩ := hg
  exact ⟨⟨g, fun s H C cl fp => p (s, H, C, cl, fp), k⟩, fun s H C cl fp => hts (s, H, C, cl, fp), fun s H C cl fp => hel (s, H, C, cl, fp)⟩
theorem xlc (mu : Bool) (own : List (Str × Nat)) (nd : X.N.Nodup) (hi : PI X tg iter (tI G W fi)) (hg : GOkF G (BX X scope) tg t) (hts : ∀ b, PTs (BX X scope b) ifs (tT G W0 ft)) (hel : ∀ b, PE (BX X scope b) elt (tE G W0 fe)) (hc : X.calm = true := by rfl)
    (ok : blkC X.N X.env.scope scope own = true := by kernel_rfl) (hs : ∀ x, foldedSetIterable iter X.env x = pure x := by intros; kernel_rfl) (hvs : ∀ i ∈ slotsT t, i ∈ own.map (·.2) := by decide) :
    PE X (.ListComp elt [⟨tg, iter, ifs, 0⟩] scope pos) (tE G W (compF mu fi t ft fe (own.map (·.2)))) := e_lc hc nd hi (blkOk_by ok) (blkE hg hts hel) hs hvs
theorem ssetlc {y : Str} {py : Pos} (i : Nat) (mu : Bool) (own : List (Str × Nat)) (nd : X.N.Nodup) (hi : PI X tg iter (tI G W fi)) (hg : GOkF G (BX X scope) tg t) (hts : ∀ b, PTs (BX X scope b) ifs (tT G W0 ft)) (hel : ∀ b, PE (BX X scope b) elt (tE G W0 fe)) (hc : X.calm = true := by rfl)
    (hy : X.N[i]? = some y := by kernel_rfl) (hyl : X.env.scope.names.lookup y = some .local := by kernel_rfl) (hsw : swapsWith (.ListComp elt [⟨tg, iter, ifs, 0⟩] scope pos) (some (.Name y py)) spos.line X.env = pure true := by kernel_rfl)
    (ok : blkC X.N X.env.scope scope own = true := by kernel_rfl) (hs : ∀ x, foldedSetIterable iter X.env x = pure x := by intros; kernel_rfl) (hvs : ∀ i ∈ slotsT t, i ∈ own.map (·.2) := by decide) :
    PS X (.Assign [.Name y py] (.ListComp elt [⟨tg, iter, ifs, 0⟩] scope pos) spos) (tS G W (setS i (compF mu fi t ft fe (own.map (·.2))))) := s_setLc hc nd hy hyl hsw hi (blkOk_by ok) (blkE hg hts hel) hs hvs
end

/-! ### x(lambda: e), x a def that tells an error's word -/
def hdl (K : PySem.W.Frag) (hs : List (Str × Str)) : List (Value × Str) := hs.map fun q => (.ref (He.ga K q.1), q.2)
structure Teller (G : Gr) (x : Str) (st : Stmt) (word : Str → Option Str) (hs : List (Str × Str)) : Prop where
  gx : G.mg x = some (.ref (He.ga G.K x))
  fn : ∃ fd, FunD G.K x x (defArgs st) (defBody st) (defScope st) [] [] (He.ga G.K x) fd
  word : WordOk G (hdl G.K hs) word
  cls : ∀ q ∈ hs, G.mg q.1 = some (.ref (He.ga G.K q.1))
section
variable {G : Gr} {X : Cx} {W : WX} {x a dflt : Str} {c P : Addr} {k : Nat} {st : Stmt} {Ng : List Str} {params : Arguments} {body : Expr} {scope : Scope} {fb : F} {p lpos pos : Pos} {hs : List (Str × Str)} {word : Str → Option Str}
theorem xlam (T : Teller G x st word hs) (Sg : FnScope Ng [a] (defScope st)) (hG : ∀ cdv : Value, LamX.GivesTo X Ng x (defScope st) (He.ga G.K x) cdv (defBody st) a (X.env.qual ++ "<lambda>") (TTm X.K (hdl G.K hs) dflt))
    (TB : LamX.TabB X.base X.mg c P) (hmT : (P, X.env.qual ++ "<lambda>") ∈ G.T) (hu : ∀ p ∈ G.T, p.1 = P → p.2 = X.env.qual ++ "<lambda>") (hr : Room k X.A) (h2 : 2 ≤ k)
    (hbody : ∀ (A : Around) (outer : List PySem.Env) (s : Shared) (H : Hp) (E : XK) (f c' : Addr), Room (k - 2) (LamX.lamCx X A outer s H E scope f c').A → PE (LamX.lamCx X A outer s H E scope f c') body (tE G (WEx E) fb))
    (hK : X.K = G.K := by rfl) (hM : X.mg = G.mg := by rfl) (hg : Gl X x := by unfold Gl; kernel_rfl) (hNg : Ng[0]? = some a := by kernel_rfl) (hva : visB (defScope st) a = true := by kernel_rfl)
    (hbg : ∀ (kV doc pm : Value) (an : Option Addr) (cdv ct : Value) (us : List Value), us.length = ([a] : List Str).length → bindArgs (PySem.W.fnOf x x (defArgs st) (defBody st) (defScope st) Value.none kV doc pm an cdv ct) { pos := us } = pure (([a] : List Str).zip us) := by intro kV doc pm an cdv ct us hl; exact match us, hl with | [_], _ => by kernel_rfl)
    (hcode : X.env.code = .ref c := by rfl) (hL : LamX.lamSB X.env.scope scope = true := by kernel_rfl) (hdef : defaultsOf params X.env = ([], []) := by kernel_rfl)
    (hbind : ∀ (q : Str) (cl : List (Str × Addr)) (pm cv ctv : Value), bindArgs (PySem.W.kla_fn "<lambda>" q params body scope cl pm cv ctv) ⟨[], []⟩ = pure [] := by intros; kernel_rfl)
    (hdb : (x == ("__debug__" : Str)) = false := by kernel_rfl) (hd : (a == ("__debug__" : Str)) = false := by kernel_rfl) (hcd : (a == ("__classdict__" : Str)) = false := by kernel_rfl) :
    PE X (.Call (.Name x p) [.Lambda params body scope lpos] [] pos) (tE G W (lamF word dflt fb)) := by
  obtain ⟨fd, D⟩ := T.fn
  rw [← hK] at D
  exact e_lam (k := k - 2) hK hM hg (by rw [hM, hK]; exact T.gx) D Sg hNg (visB_ok hva) hbg (fun cdv => by rw [hK]; exact hK ▸ hG cdv) T.word TB hcode hmT hu (hr.mono (by omega)) (LamX.lamS_by hL) hdef hbind (fun A outer s H E f c' hr' => hbody A outer s H E f c' hr') hdb hd hcd
end
theorem tkL {X : Cx} {A : Around} {outer : List PySem.Env} {s : Shared} {H : Hp} {E : XK} {scope : Scope} {f c' : Addr} : Takes (LamX.lamCx X A outer s H E scope f c') (WEx E) := takes_of rfl rfl rfl rfl
end Dx

set_option Elab.async false
set_option linter.all false
set_option maxRecDepth 100000
set_option maxHeartbeats 4000000
/-! DX, part 13: plain values; loops and comprehensions by what a turn does. -/
namespace Dx
open PySem PySem.Spec PyProof.Rows L2

mutual
/-- values of moderate size: numbers below 2^4000, at most l items -/
def okD (l : Nat) : D → Bool
  | .int i => decide (i.natAbs < 2 ^ 4000)
  | .non | .bl _ => true
  | .str x => PyData.canLay0 (.str x)
  | .tup ds | .lst ds => decide (ds.length ≤ l) && okDs l ds
  | _ => false
def okDs (l : Nat) : List D → Bool
  | [] => true
  | d :: ds => okD l d && okDs l ds
end
theorem okDs_iff {l : Nat} : ∀ {ds : List D}, okDs l ds = true ↔ ∀ d ∈ ds, okD l d = true
  | [] => by simp [okDs]
  | d :: ds => by simp [okDs, okDs_iff (ds := ds)]
theorem okD_tup {l : Nat} {ds : List D} : okD l (.tup ds) = true ↔ ds.length ≤ l ∧ ∀ d ∈ ds, okD l d = true := by simp [okD, okDs_iff]
theorem okD_lst {l : Nat} {ds : List D} : okD l (.lst ds) = true ↔ ds.length ≤ l ∧ ∀ d ∈ ds, okD l d = true := by simp [okD, okDs_iff]
theorem okD_int {l : Nat} {i : Int} : okD l (.int i) = true ↔ i.natAbs < 2 ^ 4000 := by simp [okD]
mutual
theorem okD_dat {l : Nat} : ∀ {d : D}, okD l d = true → datD d = true
  | .int i, h => rfl
  | .non, h => rfl
  | .bl _, h => rfl
  | .str x, h => by simpa [okD, datD] using h
  | .tup ds, h => by
    have h : (decide (ds.length ≤ l) && okDs l ds) = true := by simpa [okD] using h
    simp only [Bool.and_eq_true] at h
    have := okDs_dat h.2
    simpa [datD] using this
  | .lst ds, h => by
    have h : (decide (ds.length ≤ l) && okDs l ds) = true := by simpa [okD] using h
    simp only [Bool.and_eq_true] at h
    have := okDs_dat h.2
    simpa [datD] using this
  | .obj _, h => by simp [okD] at h
  | .ty _, h => by simp [okD] at h
  | .gl _, h => by simp [okD] at h
  | .exv _, h => by simp [okD] at h
theorem okDs_dat {l : Nat} : ∀ {ds : List D}, okDs l ds = true → datDs ds = true
  | [], h => rfl
  | d :: ds, h => by
    have h : (okD l d && okDs l ds) = true := by simpa [okDs] using h
    simp only [Bool.and_eq_true] at h
    have h1 := okD_dat h.1
    have h2 := okDs_dat h.2
    simp [datDs, h1, h2]
end
mutual
theorem okD_mono {l l' : Nat} (hl : l ≤ l') : ∀ {d : D}, okD l d = true → okD l' d = true
  | .int i, h => by simpa [okD] using h
  | .non, h => rfl
  | .bl _, h => rfl
  | .str x, h => by simpa [okD] using h
  | .tup ds, h => by
    have h : (decide (ds.length ≤ l) && okDs l ds) = true := by simpa [okD] using h
    simp only [Bool.and_eq_true, decide_eq_true_eq] at h
    have := okDs_mono hl h.2
    simp only [okD, this, Bool.and_true, decide_eq_true_eq]; omega
  | .lst ds, h => by
    have h : (decide (ds.length ≤ l) && okDs l ds) = true := by simpa [okD] using h
    simp only [Bool.and_eq_true, decide_eq_true_eq] at h
    have := okDs_mono hl h.2
    simp only [okD, this, Bool.and_true, decide_eq_true_eq]; omega
  | .obj _, h => by simp [okD] at h
  | .ty _, h => by simp [okD] at h
  | .gl _, h => by simp [okD] at h
  | .exv _, h => by simp [okD] at h
theorem okDs_mono {l l' : Nat} (hl : l ≤ l') : ∀ {ds : List D}, okDs l ds = true → okDs l' ds = true
  | [], h => rfl
  | d :: ds, h => by
    have h : (okD l d && okDs l ds) = true := by simpa [okDs] using h
    simp only [Bool.and_eq_true] at h
    have h1 := okD_mono hl h.1
    have h2 := okDs_mono hl h.2
    simp [okDs, h1, h2]
end
theorem okD_get {l : Nat} {d : D} (S : Store) (h : okD l d = true) : getS S d = d := by
  cases d <;> first | rfl | simp [okD] at h
theorem dat_get {d : D} (S : Store) (h : datD d = true) : getS S d = d := by
  cases d <;> first | rfl | simp [datD] at h
theorem depDs_le {n : Nat} : ∀ {ds : List D}, depDs ds ≤ n ↔ ∀ d ∈ ds, depD d ≤ n
  | [] => by simp [depDs]
  | d :: ds => by simp [depDs, depDs_le (ds := ds), Nat.max_le]
theorem depD_tup {n : Nat} {ds : List D} : depD (.tup ds) ≤ n + 1 ↔ ∀ d ∈ ds, depD d ≤ n := by simp [depD, depDs_le]
theorem depD_lst {n : Nat} {ds : List D} : depD (.lst ds) ≤ n + 1 ↔ ∀ d ∈ ds, depD d ≤ n := by simp [depD, depDs_le]
theorem depD_mem {n : Nat} {ds : List D} {d : D} (h : depD (.tup ds) ≤ n) (hd : d ∈ ds) : depD d + 1 ≤ n := by
  cases n with
  | zero => simp [depD] at h
  | succ n => have := depD_tup.mp h d hd; omega
theorem eqO_of {x y : D} {S : Store} (hx : datD x = true) (hy : datD y = true) (dx : depD x ≤ 64) (dy : depD y ≤ 64) : eqO x y S = some (.bl (eqD x y)) := by
  unfold eqO cmpOk
  rw [dat_get S hx, dat_get S hy, hx, hy, decide_eq_true dx, decide_eq_true dy]
  rfl
theorem neO_of {x y : D} {S : Store} (hx : datD x = true) (hy : datD y = true) (dx : depD x ≤ 64) (dy : depD y ≤ 64) : neO x y S = some (.bl (!eqD x y)) := by
  unfold neO cmpOk
  rw [dat_get S hx, dat_get S hy, hx, hy, decide_eq_true dx, decide_eq_true dy]
  rfl
/-- == of two values -/
theorem eqG_of {x y : D} {τ : Env} {S : Store} {Q : D → Store → Prop} {E : QX} (hx : datD x = true) (hy : datD y = true) (dx : depD x ≤ 64) (dy : depD y ≤ 64) (q : Q (.bl (eqD x y)) S) : eqG x y τ S Q E := by
  unfold eqG optF
  rw [eqO_of hx hy dx dy]
  exact q
theorem neG_of {x y : D} {τ : Env} {S : Store} {Q : D → Store → Prop} {E : QX} (hx : datD x = true) (hy : datD y = true) (dx : depD x ≤ 64) (dy : depD y ≤ 64) (q : Q (.bl (!eqD x y)) S) : neG x y τ S Q E := by
  unfold neG optF
  rw [neO_of hx hy dx dy]
  exact q

/-! ### the cup: a list of the store with two numbers -/
def Cup (n : Nat) (S : Store) : Prop := ∃ a b : Int, S[n]? = some (.lst [.int a, .int b])
/-- the cup may be another, all else is as it was -/
structure CupR (n : Nat) (S S' : Store) : Prop where
  cup : Cup n S'
  len : S'.length = S.length
  same : ∀ i, i ≠ n → S'[i]? = S[i]?
theorem CupR.refl {n : Nat} {S : Store} (h : Cup n S) : CupR n S S := ⟨h, rfl, fun _ _ => rfl⟩
theorem CupR.trans {n : Nat} {S S1 S2 : Store} (a : CupR n S S1) (b : CupR n S1 S2) : CupR n S S2 := ⟨b.cup, b.len.trans a.len, fun i h => (b.same i h).trans (a.same i h)⟩
theorem CupR.set {n : Nat} {S : Store} {a b : Int} (h : Cup n S) : CupR n S (S.set n (.lst [.int a, .int b])) := by
  obtain ⟨a', b', h⟩ := h
  have hl : n < S.length := (List.getElem?_eq_some_iff.mp h).1
  exact ⟨⟨a, b, by rw [List.getElem?_set_self hl]⟩, by simp, fun i hi => List.getElem?_set_ne (fun e => hi e.symm)⟩

/-! ### loops -/
theorem forL_inv {t : Tg} {body : FS} {chk : Store → Prop} {E : DEnds} (I : Nat → Env → Store → Prop) : ∀ (ds : List D) (i : Nat) {τ : Env} {S : Store}, I i τ S →
    (∀ (j : Nat) (d : D), ds[j]? = some d → ∀ (τ : Env) (S : Store) (K : Env → Store → Prop), I (i + j) τ S → (∀ τ' S', I (i + j + 1) τ' S' → K τ' S') → chk S ∧ ∃ τ', bindT t d τ = some τ' ∧ body { E with nx := K, ct := K, bk := E.nx } τ' S) →
    (∀ τ S, I (i + ds.length) τ S → chk S ∧ E.nx τ S) → forL t body chk ds E τ S
  | [], i, τ, S, h0, _, he => he τ S (by simpa using h0)
  | d :: ds, i, τ, S, h0, ht, he => by
    obtain ⟨h1, τ', h2, h3⟩ := ht 0 d rfl τ S (fun τ'' S'' => forL t body chk ds E τ'' S'') (by simpa using h0) (fun τ' S' h => forL_inv I ds (i + 1) (by simpa using h)
      (fun j d hj τ S K hI hK => ht (j + 1) d (by simpa using hj) τ S K (by rw [show i + (j + 1) = i + 1 + j by omega]; exact hI) (fun τ' S' h => hK τ' S' (by rw [show i + 1 + j + 1 = i + (j + 1) + 1 by omega]; exact h)))
      (fun τ S h => he τ S (by rw [show i + (d :: ds).length = i + 1 + ds.length by simp; omega]; exact h)))
    unfold forL
    refine ⟨h1, ?_⟩
    rw [h2]
    exact h3
/-- a comprehension whose turns change nothing -/
theorem compL_pure {t : Tg} {ft : FG Bool} {fe : F} {chk : Store → Prop} {τ : Env} {S : Store} (p : D → Bool) (f : D → D) : ∀ (ds acc : List D) {Q : List D → Store → Prop},
    (∀ d ∈ ds, ∃ τ', bindT t d τ = some τ' ∧ (∀ Q : Bool → Store → Prop, Q (p d) S → ft τ' S Q noX) ∧ (p d = true → ∀ Q : D → Store → Prop, Q (f d) S → fe τ' S Q noX)) →
    chk S → acc.length + ds.length ≤ sizeLine → Q (acc ++ (ds.filter p).map f) S → compL t ft fe chk τ ds acc S Q
  | [], acc, Q, _, hc, _, hq => by
    unfold compL
    exact ⟨hc, by simpa using hq⟩
  | d :: ds, acc, Q, h, hc, hl, hq => by
    obtain ⟨τ', h1, h2, h3⟩ := h d List.mem_cons_self
    unfold compL
    refine ⟨hc, ?_⟩
    rw [h1]
    simp only [List.length_cons] at hl
    refine h2 _ ?_
    by_cases hp : p d = true
    · rw [if_pos hp]
      refine h3 hp _ ⟨by omega, compL_pure p f ds (acc ++ [f d]) (fun d hd => h d (List.mem_cons_of_mem _ hd)) hc (by simp; omega) ?_⟩
      have e : List.filter p (d :: ds) = d :: List.filter p ds := by simp [hp]
      rw [e] at hq
      simpa using hq
    · rw [if_neg hp]
      refine compL_pure p f ds acc (fun d hd => h d (List.mem_cons_of_mem _ hd)) hc (by omega) ?_
      have e : List.filter p (d :: ds) = List.filter p ds := by simp [hp]
      rw [e] at hq
      exact hq
/-- a comprehension over a value -/
theorem compF_val {fi : FG Its'} {t : Tg} {ft : FG Bool} {fe : F} {vs : List Nat} {τ : Env} {S : Store} {Q : D → Store → Prop} {E : QX} (ds : List D) (chk : Store → Prop) (p : D → Bool) (f : D → D)
    (hi : ∀ (Q : Its' → Store → Prop), Q (ds, chk) S → fi τ S Q E) (hc : chk S) (hl : ds.length ≤ sizeLine)
    (h : ∀ d ∈ ds, ∃ τ', bindT t d (wipeE τ vs) = some τ' ∧ (∀ Q : Bool → Store → Prop, Q (p d) S → ft τ' S Q noX) ∧ (p d = true → ∀ Q : D → Store → Prop, Q (f d) S → fe τ' S Q noX))
    (hq : Q (.lst ((ds.filter p).map f)) S) : compF false fi t ft fe vs τ S Q E := by
  unfold compF
  refine hi _ (compL_pure p f ds [] h hc (by simpa using hl) ?_)
  unfold newL
  rw [if_neg Bool.false_ne_true]
  simpa using hq
theorem eqG_ii {a b : Int} {τ : Env} {S : Store} {Q : D → Store → Prop} {E : QX} : eqG (.int a) (.int b) τ S Q E = Q (.bl (decide (a = b))) S := by
  unfold eqG optF
  rw [eqO_of rfl rfl (by simp [depD]) (by simp [depD])]
  simp only [eqD]
  congr 2
theorem neG_ii {a b : Int} {τ : Env} {S : Store} {Q : D → Store → Prop} {E : QX} : neG (.int a) (.int b) τ S Q E = Q (.bl (!decide (a = b))) S := by
  unfold neG optF
  rw [neO_of rfl rfl (by simp [depD]) (by simp [depD])]
  simp only [eqD]
  congr 3
theorem neG_bb {a b : Bool} {τ : Env} {S : Store} {Q : D → Store → Prop} {E : QX} : neG (.bl a) (.bl b) τ S Q E = Q (.bl (!(a == b))) S := by
  unfold neG optF
  rw [neO_of rfl rfl (by simp [depD]) (by simp [depD])]
  simp only [eqD]
end Dx

set_option Elab.async false
set_option linter.all false
set_option maxRecDepth 100000
set_option maxHeartbeats 4000000
/-! DX, part 12b: a list's append; the module's tuples. -/
namespace Dx
open PySem PySem.Spec PyProof.Rows L2
def appF (o y : D) : F := fun _ S Q _ => match o with
  | .obj n => (match S[n]? with
    | some (.lst ds) => ds.length < sizeLine ∧ Q .non (S.set n (.lst (ds ++ [y])))
    | _ => False)
  | _ => False
def isLo (o : D) : FG Unit := fun _ S Q _ => match o with
  | .obj n => (match S[n]? with
    | some (.lst _) => Q () S
    | _ => False)
  | _ => False
abbrev appE (fo fy : F) : F := bindF fo fun o => bindF (isLo o) fun _ => bindF fy fun y => appF o y
section
variable {G : Gr} {X : Cx} {W : WX} {o e : Expr} {apos cpos : Pos} {fo fy : F}
theorem xapp (ho : PE X o (tE G W fo)) (ha : PE X e (tE G W fy)) (hbase : attributeBase o "append" X.env (eval o X.env) = eval o X.env := by kernel_rfl)
    (hfew : ((backTo cpos (starEach (e :: []) X.env)).all (fun x => !x.1) && (backToKw cpos (keywordEach [] X.env)).all (fun x => x.1.isSome) && decide ((e :: []).length + ([] : List Keyword).length + (if ([] : List Keyword).isEmpty then 0 else 1) < 30)) = true := by kernel_rfl)
    (hline : (apos.endLine == cpos.line) = true := by kernel_rfl) (hs : starEach (e :: []) X.env = (false, eval e X.env) :: starEach [] X.env := by kernel_rfl) (hplain : (backTo cpos (starEach [] X.env)).any (·.1) = false := by kernel_rfl) :
    PE X (.Call (.Attribute o "append" apos) [e] [] cpos) (tE G W (appE fo fy)) := by
  have ha2 : PA X [e] (tA G W (consF fy nilF)) := a_cons ha a_nil hs
  refine PE.imp (pe_bm PySem.F.plainAttrs_list PySem.F.slot_list_append PySem.F.type_list_append mt_append ho ha2 hbase hfew hline hs hplain) fun σ H Q ⟨τ, m, S, h⟩ => ?_
  refine ⟨τ, m, S, h.seq fun m1 S1 H1 v d e1 sr1 r1 h1 => ?_⟩
  obtain ⟨QD, QE, sr, er, hf, k, px⟩ := h1
  unfold bindF isLo at hf
  split at hf
  · rename_i n
    split at hf
    · rename_i ds hs
      obtain ⟨a, xs, rfl, hm, hH, rx⟩ := live_of sr r1 hs
      refine ⟨.inl ⟨rfl, xs, .inl (.inl hH)⟩, τ, m1, S1, fun ds' S' => (match ds' with | [y] => appF (.obj n) y τ S' QD QE | _ => False), QE, sr, er, hf, fun m2 S2 H2 vs ds' e2 sr2 r2 q2 => ?_, px⟩
      cases r2 with
      | nil => exact q2.elim
      | cons rv rr =>
        rename_i v vs y ys
        cases rr with
        | cons _ _ => exact q2.elim
        | nil =>
          have q2 : appF (.obj n) y τ S2 QD QE := q2
          cases hS : S2[n]? with
          | none => simp [appF, hS] at q2
          | some ob =>
            cases ob with
            | lst ds2 =>
              simp only [appF, hS] at q2
              obtain ⟨a2, xs2, ea, hm2, hH2, rx2⟩ := live_of sr2 (r1.mono sr1 e2) hS
              cases ea
              exact ⟨a, xs2, v, rfl, rfl, hH2, by rw [rx2.length]; exact q2.1, k m2 _ _ .non .non (e2.trans (Ext.write sr2 hm2)) (sr2.write hm2 (rx2.append (.cons rv .nil))) .non q2.2⟩
            | dead => simp [appF, hS] at q2
            | dct _ => simp [appF, hS] at q2
    · exact hf.elim
  · exact hf.elim
end

/-- a tuple of the module -/
abbrev tup! (ds : List D) : F := retF (.tup ds)
def flatV : D → Option V
  | .int i => some (.int i)
  | .str x => some (.str x)
  | .bl b => some (.bl b)
  | .non => some .non
  | _ => none
def FlatAll : List D → List V → Prop
  | [], [] => True
  | d :: ds, v :: vs => flatV d = some v ∧ FlatAll ds vs
  | _, _ => False
theorem flat_rep {G : Gr} {m : Mp} {H : Hp} : ∀ {ds : List D} {vs : List V}, FlatAll ds vs → RepAll G m H vs ds
  | [], [], _ => .nil
  | [], _ :: _, h => h.elim
  | _ :: _, [], h => h.elim
  | d :: ds, v :: vs, ⟨h1, h2⟩ => .cons (by cases d <;> simp [flatV] at h1 <;> subst h1 <;> constructor) (flat_rep h2)
structure TupK (G : Gr) (x : Str) (ds : List D) : Prop where
  ex : ∃ (a : Addr) (vs : List V), G.mg x = some (.ref a) ∧ (∀ H : Hp, SqT G.K H a vs) ∧ FlatAll ds vs
theorem xtupK {G : Gr} {X : Cx} {W : WX} {x : Str} {pos : Pos} {ds : List D} (T : TupK G x ds) (hM : X.mg = G.mg := by rfl) (hg : Gl X x := by unfold Gl; kernel_rfl) (hd : (x == ("__debug__" : Str)) = false := by kernel_rfl) : PE X (.Name x pos) (tE G W (tup! ds)) := by
  obtain ⟨a, vs, h1, h2, h3⟩ := T.ex
  exact e_const (v := .ref a) (pe_glob hg (by rw [hM]; exact h1) rfl hd) fun m H => .tup (h2 H) (flat_rep h3)
end Dx

set_option Elab.async false
set_option linter.all false
set_option maxRecDepth 100000
set_option maxHeartbeats 4000000
/-! DX: zip of two values. -/
namespace Dx
open PySem PySem.Spec PyProof.Rows L2
def zipD (xs ys : List D) : List D := List.zipWith (fun a b => .tup [a, b]) xs ys
theorem zipD_get {xs ys : List D} {i : Nat} {d : D} (h : (zipD xs ys)[i]? = some d) : ∃ a b, xs[i]? = some a ∧ ys[i]? = some b ∧ d = .tup [a, b] := by
  unfold zipD at h
  rw [List.getElem?_zipWith] at h
  cases h1 : xs[i]? with
  | none => rw [h1] at h; cases h
  | some a =>
    cases h2 : ys[i]? with
    | none => rw [h1, h2] at h; cases h
    | some b => rw [h1, h2] at h; cases h; exact ⟨a, b, rfl, rfl, rfl⟩
theorem zipD_stop {xs ys : List D} {i : Nat} (h : (zipD xs ys).length ≤ i) : xs.length ≤ i ∨ ys.length ≤ i := by
  unfold zipD at h
  rw [List.length_zipWith] at h
  omega
/-- the two values that zip walks -/
def zipI (ds : List D) : FG Its' := fun _ S Q _ => match ds with
  | [x, y] => (match getS S x, getS S y with
    | .tup xs, .tup ys => Q (zipD xs ys, fun _ => True) S
    | .lst xs, .lst ys => Q (zipD xs ys, fun S' => getS S' x = .lst xs ∧ getS S' y = .lst ys) S
    | _, _ => False)
  | _ => False
/-- a new pair is laid -/
theorem new_pair {G : Gr} {m : Mp} {S : Store} {H : Hp} {T : Addr} {v w : V} {a b : D} (sr : SR G m S H) (hT : H T = none) (rv : Rep G m H v a) (rw_ : Rep G m H w b) :
    Ext m H m (upd H T (.tup [v, w])) ∧ SR G m S (upd H T (.tup [v, w])) ∧ Rep G m (upd H T (.tup [v, w])) (.ref T) (.tup [a, b]) :=
  have e : Ext m H m (upd H T (.tup [v, w])) := Ext.upd sr hT
  ⟨e, sr.upd hT, .tup (.inl (.inl upd_same)) (.cons (rv.mono sr e) (.cons (rw_.mono sr e) .nil))⟩
theorem jok_zipT {G : Gr} {a b : Addr} {ds es : List D} : JOk G (RZ.ItzT G.K a b) (zipD ds es) (fun _ => True) (fun m _ H => (∃ xs, SqT G.K H a xs ∧ RepAll G m H xs ds) ∧ ∃ ys, SqT G.K H b ys ∧ RepAll G m H ys es) where
  mono := fun m S H m' S' H' sr sr' e ⟨⟨xs, h, r⟩, ys, h2, r2⟩ => ⟨⟨xs, by
    rcases h with h | h
    · exact .inl (e.rd h (sr.notTup h) (fun ps z => by cases z)).1
    · exact .inr h, r.mono0 sr e⟩, ys, by
    rcases h2 with h | h
    · exact .inl (e.rd h (sr.notTup h) (fun ps z => by cases z)).1
    · exact .inr h, r2.mono0 sr e⟩
  go := fun i d m S H sr ⟨⟨xs, h, r⟩, ys, h2, r2⟩ _ hd => by
    obtain ⟨p, q, e1, e2, rfl⟩ := zipD_get hd
    obtain ⟨v, hv, rv⟩ := r.get e1
    obtain ⟨w, hw, rw_⟩ := r2.get e2
    refine ⟨⟨xs, ys, v, w, h, h2, hv, hw⟩, fun u H' ⟨T, x, y, e, hT, eH, k1, k2⟩ => ?_⟩
    have z1 := k1 xs h
    have z2 := k2 ys h2
    rw [hv] at z1; cases z1
    rw [hw] at z2; cases z2
    subst e eH
    exact new_pair sr hT rv rw_
  stop := fun i m S H sr ⟨⟨xs, h, r⟩, ys, h2, r2⟩ _ hi => ⟨xs, ys, h, h2, by
    rw [r.length, r2.length]
    exact zipD_stop hi⟩
theorem jok_zipL {G : Gr} {a b : Addr} {x y : D} {ds es : List D} : JOk G (Itz G.K a b) (zipD ds es) (fun S' => getS S' x = .lst ds ∧ getS S' y = .lst es) (fun m S H => Rep G m H (.ref a) x ∧ Rep G m H (.ref b) y) where
  mono := fun m S H m' S' H' sr sr' e ⟨r, r2⟩ => ⟨r.mono0 sr e, r2.mono0 sr e⟩
  go := fun i d m S H sr ⟨r, r2⟩ ⟨c, c2⟩ hd => by
    obtain ⟨p, q, e1, e2, rfl⟩ := zipD_get hd
    obtain ⟨a', xs, e, h, ra⟩ := r.getL sr c
    cases e
    obtain ⟨b', ys, e', h2, ra2⟩ := r2.getL sr c2
    cases e'
    obtain ⟨v, hv, rv⟩ := ra.get e1
    obtain ⟨w, hw, rw_⟩ := ra2.get e2
    refine ⟨⟨xs, ys, v, w, h.sq, h2.sq, hv, hw⟩, fun u H' ⟨T, x, y, e, hT, eH, k1, k2⟩ => ?_⟩
    have z1 := k1 xs h.sq
    have z2 := k2 ys h2.sq
    rw [hv] at z1; cases z1
    rw [hw] at z2; cases z2
    subst e eH
    exact new_pair sr hT rv rw_
  stop := fun i m S H sr ⟨r, r2⟩ ⟨c, c2⟩ hi => by
    obtain ⟨a', xs, e, h, ra⟩ := r.getL sr c
    cases e
    obtain ⟨b', ys, e', h2, ra2⟩ := r2.getL sr c2
    cases e'
    exact ⟨xs, ys, h.sq, h2.sq, by rw [ra.length, ra2.length]; exact zipD_stop hi⟩
theorem i_zip {G : Gr} {X : Cx} {W : WX} {e e2 : Expr} {fa : FG (List D)} {p pos tpos : Pos} {elts : List Expr} {kk : Nat} (hK : X.K = G.K) (hg : Gl X "zip") (hm : X.mg "zip" = none) (ha : PA X [e, e2] (tA G W fa))
    (hs : starEach [e, e2] X.env = (false, eval e X.env) :: starEach [e2] X.env) (hpl : (backTo pos (starEach [e2] X.env)).any (·.1) = false) :
    PI X (.Tuple elts kk tpos) (.Call (.Name "zip" p) [e, e2] [] pos) (tI G W (bindF fa zipI)) :=
  PI.imp (RZ.pi_zipA hg hm ha hs hpl) fun σ H R ⟨τ, m, S, h⟩ => ⟨τ, m, S, h.seq fun m1 S1 H1 vs ds e1 sr1 r1 h1 => by
    obtain ⟨QD, QE, sr, er, hf, k, px⟩ := h1
    rw [hK]
    unfold zipI at hf
    split at hf
    · rename_i x y
      cases r1 with
      | cons ra rr =>
        cases rr with
        | cons rb rr =>
          cases rr
          split at hf
          · rename_i xs ys q1 q2
            cases getS_tup q1
            cases getS_tup q2
            obtain ⟨a, vs, rfl, t1, ra1⟩ := ra.getT rfl
            obtain ⟨b, ws, rfl, t2, ra2⟩ := rb.getT rfl
            exact ⟨a, b, vs, ws, rfl, .inr ⟨t1, t2, k m1 S1 H1 _ _ (Ext.refl _ _) sr ⟨_, jok_zipT, fun S _ => ⟨⟨vs, t1, ra1⟩, ws, t2, ra2⟩⟩ hf⟩⟩
          · rename_i xs ys q1 q2
            obtain ⟨a, vs, rfl, t1, ra1⟩ := ra.getL sr q1
            obtain ⟨b, ws, rfl, t2, ra2⟩ := rb.getL sr q2
            exact ⟨a, b, vs, ws, rfl, .inl ⟨t1.sq, t2.sq, k m1 S1 H1 _ _ (Ext.refl _ _) sr ⟨_, jok_zipL, fun S _ => ⟨ra, rb⟩⟩ hf⟩⟩
          · exact hf.elim
    · exact hf.elim⟩
end Dx

set_option Elab.async false
set_option linter.all false
set_option maxRecDepth 100000
set_option maxHeartbeats 4000000
/-! DX: the order of ints and of tuples; sorted. -/
namespace Dx
open PySem PySem.Spec PyProof.Rows L2
mutual
/-- less: of ints, of tuples of such -/
def ltD : D → D → Bool
  | .int i, .int j => decide (i < j)
  | .tup xs, .tup ys => ltDs xs ys
  | _, _ => false
def ltDs : List D → List D → Bool
  | [], [] => false
  | [], _ :: _ => true
  | _ :: _, [] => false
  | x :: xs, y :: ys => if eqD x y = true then ltDs xs ys else ltD x y
end
mutual
/-- that can be compared -/
def cmpD : D → D → Bool
  | .int _, .int _ => true
  | .tup xs, .tup ys => cmpDs xs ys
  | _, _ => false
def cmpDs : List D → List D → Bool
  | x :: xs, y :: ys => (eqD x y || cmpD x y) && cmpDs xs ys
  | _, _ => true
end
theorem ltDs_at : ∀ (xs ys : List D) (i k : Nat) (e r : Nat → Bool), k = min xs.length ys.length → (∀ j (h1 : j < xs.length) (h2 : j < ys.length), e (i + j) = eqD xs[j] ys[j]) → (∀ j (h1 : j < xs.length) (h2 : j < ys.length), r (i + j) = ltD xs[j] ys[j]) →
    Ob.lexAt e r (decide (xs.length < ys.length)) i k = ltDs xs ys
  | [], [], i, k, e, r, hk, _, _ => by
    have : k = 0 := by simpa using hk
    subst this
    simp [Ob.lexAt, ltDs]
  | [], y :: ys, i, k, e, r, hk, _, _ => by
    have : k = 0 := by simpa using hk
    subst this
    simp [Ob.lexAt, ltDs]
  | x :: xs, [], i, k, e, r, hk, _, _ => by
    have : k = 0 := by simpa using hk
    subst this
    simp [Ob.lexAt, ltDs]
  | x :: xs, y :: ys, i, k, e, r, hk, he, hr => by
    obtain ⟨k, rfl⟩ : ∃ k', k = k' + 1 := ⟨min xs.length ys.length, by simp only [List.length_cons] at hk; omega⟩
    have hk' : k = min xs.length ys.length := by simp only [List.length_cons] at hk; omega
    have e0 := he 0 (by simp) (by simp)
    have r0 := hr 0 (by simp) (by simp)
    simp only [Nat.add_zero, List.getElem_cons_zero] at e0 r0
    rw [Ob.lexAt_succ, e0, r0]
    have ih := ltDs_at xs ys (i + 1) k e r hk' (fun j h1 h2 => by
      have := he (j + 1) (by simpa using h1) (by simpa using h2)
      rw [show i + 1 + j = i + (j + 1) by omega]
      simpa using this) (fun j h1 h2 => by
      have := hr (j + 1) (by simpa using h1) (by simpa using h2)
      rw [show i + 1 + j = i + (j + 1) by omega]
      simpa using this)
    have el : decide ((x :: xs).length < (y :: ys).length) = decide (xs.length < ys.length) := by
      simp
    rw [el, ih]
    rfl
section
variable {G : Gr} {X : Cx} {pins : List (Addr × Obj)} {σ : L2.St} {H : Hp} {s : Shared} {m : Mp}
theorem getElem_of {α : Type} {l : List α} {j : Nat} {x : α} (h : j < l.length) (e : l[j]? = some x) : l[j] = x := by
  rw [List.getElem?_eq_getElem h] at e; exact Option.some.inj e
/-- equality by values, seen at A -/
theorem eq_at (I : Inv X pins σ H s) (hK : X.K = G.K) {A : Around} {x y : D} {v w : V} {a b : Value} (rx : Rep G m H v x) (ry : Rep G m H w y) (ra : RelV v a) (rb : RelV w b) (cx : cmpOk x = true) (cy : cmpOk y = true) (hu : A.in1.units + 64 < cLine) :
    SeqAt.EqAt A.in1 s a b (eqD x y) := by
  obtain ⟨p, p1, p2⟩ := cmpOk_py cx
  obtain ⟨q, q1, q2⟩ := cmpOk_py cy
  obtain ⟨as, r1⟩ := Dp.reads I p v a (hK ▸ rx.dp p1) ra
  obtain ⟨bs, r2⟩ := Dp.reads I q w b (hK ▸ ry.dp q1) rb
  rw [← eqv_eqD x y p q p1 q1]
  exact PySem.W.keq_at r1 r2 p2 q2 hu
theorem cmpOk_item {xs : List D} {j : Nat} (h : cmpOk (.tup xs) = true) (hj : j < xs.length) : cmpOk xs[j] = true := by
  unfold cmpOk at h ⊢
  simp only [Bool.and_eq_true, decide_eq_true_eq, datD, depD] at h ⊢
  have z : ∀ (l : List D) (j : Nat) (hj : j < l.length) (k : Nat), datDs l = true → depDs l ≤ k → datD l[j] = true ∧ depD l[j] ≤ k := by
    intro l
    induction l with
    | nil => intro j hj; exact absurd hj (by simp)
    | cons x l ih =>
      intro j hj k h1 h2
      simp only [datDs, depDs, Bool.and_eq_true] at h1 h2
      cases j with
      | zero => exact ⟨h1.1, by simp; omega⟩
      | succ j => exact ih j (by simpa using hj) k h1.2 (by omega)
  obtain ⟨h1, h2⟩ := h
  have h2 : depDs xs + 1 ≤ 64 := of_decide_eq_true h2
  obtain ⟨a, b⟩ := z xs j hj 64 h1 (by omega)
  exact ⟨a, b⟩
theorem cmpDs_at : ∀ {xs ys : List D} {j : Nat} (h1 : j < xs.length) (h2 : j < ys.length), cmpDs xs ys = true → eqD xs[j] ys[j] = false → cmpD xs[j] ys[j] = true
  | x :: xs, y :: ys, 0, _, _, h, e => by
    simp only [cmpDs, Bool.and_eq_true, Bool.or_eq_true] at h
    simp only [List.getElem_cons_zero] at e ⊢
    rcases h.1 with z | z
    · rw [e] at z; cases z
    · exact z
  | x :: xs, y :: ys, j + 1, h1, h2, h, e => by
    simp only [cmpDs, Bool.and_eq_true] at h
    simp only [List.getElem_cons_succ] at e ⊢
    exact cmpDs_at (by simpa using h1) (by simpa using h2) h.2 e
theorem rc_lt (I : Inv X pins σ H s) (hK : X.K = G.K) : ∀ (n : Nat) (A : Around) (x y : D) (v w : V) (a b : Value), depD x ≤ n → Rep G m H v x → Rep G m H w y → RelV v a → RelV w b → cmpOk x = true → cmpOk y = true → cmpD x y = true → A.units + 65 + n < cLine →
    Ob.RcOp .Lt A s a b (ltD x y)
  | n, A, .int i, .int j, v, w, a, b, hn, rx, ry, ra, rb, cx, cy, c, hu => by
    cases rx
    cases ry
    obtain ⟨t, rfl⟩ := ra
    obtain ⟨u, rfl⟩ := rb
    exact Ob.RcOp.lt_int i j t u
  | 0, A, .tup xs, .tup ys, v, w, a, b, hn, rx, ry, ra, rb, cx, cy, c, hu => by
    simp [depD] at hn
  | n + 1, A, .tup xs, .tup ys, v, w, a, b, hn, rx, ry, ra, rb, cx, cy, c, hu => by
    obtain ⟨a', vs, rfl, t1, r1⟩ := rx.getT rfl
    obtain ⟨b', ws, rfl, t2, r2⟩ := ry.getT rfl
    cases ra
    cases rb
    obtain ⟨its, q1, p1, _⟩ := I.tuple (hK ▸ t1)
    obtain ⟨its2, q2, p2, _⟩ := I.tuple (hK ▸ t2)
    have l1 : its.toArray.size = xs.length := by rw [List.size_toArray, ← q1.length, r1.length]
    have l2 : its2.toArray.size = ys.length := by rw [List.size_toArray, ← q2.length, r2.length]
    have hun : A.in1.units = A.units + 1 := Around.in1_units A
    have R := Ob.RcOp.tuples_lt (A := A) (s := s) (e := fun j => if h : j < xs.length ∧ j < ys.length then eqD (xs[j]'h.1) (ys[j]'h.2) else true) (r := fun j => if h : j < xs.length ∧ j < ys.length then ltD (xs[j]'h.1) (ys[j]'h.2) else true) p1 p2 (by omega) (fun j h1 h2 => ?_) (fun j h1 h2 hf => ?_)
    · have e1 := ltDs_at xs ys 0 (min xs.length ys.length) (fun j => if h : j < xs.length ∧ j < ys.length then eqD (xs[j]'h.1) (ys[j]'h.2) else true) (fun j => if h : j < xs.length ∧ j < ys.length then ltD (xs[j]'h.1) (ys[j]'h.2) else true) rfl
        (fun j h1 h2 => by simp [h1, h2]) (fun j h1 h2 => by simp [h1, h2])
      rw [l1, l2, e1] at R
      exact R
    all_goals
      have j1 : j < xs.length := by rw [← l1]; exact h1
      have j2 : j < ys.length := by rw [← l2]; exact h2
      obtain ⟨v1, e1, rv1⟩ := r1.get (List.getElem?_eq_getElem j1)
      obtain ⟨w1, e2, rw1⟩ := r2.get (List.getElem?_eq_getElem j2)
      obtain ⟨a1, e3, ra1⟩ := q1.get e1
      obtain ⟨b1, e4, rb1⟩ := q2.get e2
      have g1 : its.toArray[j] = a1 := by
        have := getElem_of (by simpa using h1) e3
        simpa using this
      have g2 : its2.toArray[j] = b1 := by
        have := getElem_of (by simpa using h2) e4
        simpa using this
      rw [g1, g2]
      simp only [j1, j2, and_self, dite_true]
    · exact eq_at I hK rv1 rw1 ra1 rb1 (cmpOk_item cx j1) (cmpOk_item cy j2) (by omega)
    · simp only [j1, j2, and_self, dite_true] at hf
      have dn : depD xs[j] ≤ n := by
        have z : ∀ (l : List D) (j : Nat) (hj : j < l.length), depD l[j] ≤ depDs l := by
          intro l
          induction l with
          | nil => intro j hj; exact absurd hj (by simp)
          | cons x l ih =>
            intro j hj
            simp only [depDs]
            cases j with
            | zero => simp; omega
            | succ j => have := ih j (by simpa using hj); simp; omega
        have := z xs j j1
        simp only [depD] at hn
        omega
      exact rc_lt I hK n A.in1 xs[j] ys[j] v1 w1 a1 b1 dn rv1 rw1 ra1 rb1 (cmpOk_item cx j1) (cmpOk_item cy j2) (cmpDs_at j1 j2 (by simpa [cmpD] using c) hf) (by omega)
  | _, _, .non, _, _, _, _, _, _, _, _, _, _, _, _, c, _ => by simp [cmpD] at c
  | _, _, .bl _, _, _, _, _, _, _, _, _, _, _, _, _, c, _ => by simp [cmpD] at c
  | _, _, .str _, _, _, _, _, _, _, _, _, _, _, _, _, c, _ => by simp [cmpD] at c
  | _, _, .lst _, _, _, _, _, _, _, _, _, _, _, _, _, c, _ => by simp [cmpD] at c
  | _, _, .obj _, _, _, _, _, _, _, _, _, _, _, _, _, c, _ => by simp [cmpD] at c
  | _, _, .ty _, _, _, _, _, _, _, _, _, _, _, _, _, c, _ => by simp [cmpD] at c
  | _, _, .gl _, _, _, _, _, _, _, _, _, _, _, _, _, c, _ => by simp [cmpD] at c
  | _, _, .exv _, _, _, _, _, _, _, _, _, _, _, _, _, c, _ => by simp [cmpD] at c
  | _, _, .int _, .non, _, _, _, _, _, _, _, _, _, _, _, c, _ => by simp [cmpD] at c
  | _, _, .int _, .bl _, _, _, _, _, _, _, _, _, _, _, _, c, _ => by simp [cmpD] at c
  | _, _, .int _, .str _, _, _, _, _, _, _, _, _, _, _, _, c, _ => by simp [cmpD] at c
  | _, _, .int _, .tup _, _, _, _, _, _, _, _, _, _, _, _, c, _ => by simp [cmpD] at c
  | _, _, .int _, .lst _, _, _, _, _, _, _, _, _, _, _, _, c, _ => by simp [cmpD] at c
  | _, _, .int _, .obj _, _, _, _, _, _, _, _, _, _, _, _, c, _ => by simp [cmpD] at c
  | _, _, .int _, .ty _, _, _, _, _, _, _, _, _, _, _, _, c, _ => by simp [cmpD] at c
  | _, _, .int _, .gl _, _, _, _, _, _, _, _, _, _, _, _, c, _ => by simp [cmpD] at c
  | _, _, .int _, .exv _, _, _, _, _, _, _, _, _, _, _, _, c, _ => by simp [cmpD] at c
  | _, _, .tup _, .non, _, _, _, _, _, _, _, _, _, _, _, c, _ => by simp [cmpD] at c
  | _, _, .tup _, .bl _, _, _, _, _, _, _, _, _, _, _, _, c, _ => by simp [cmpD] at c
  | _, _, .tup _, .str _, _, _, _, _, _, _, _, _, _, _, _, c, _ => by simp [cmpD] at c
  | _, _, .tup _, .int _, _, _, _, _, _, _, _, _, _, _, _, c, _ => by simp [cmpD] at c
  | _, _, .tup _, .lst _, _, _, _, _, _, _, _, _, _, _, _, c, _ => by simp [cmpD] at c
  | _, _, .tup _, .obj _, _, _, _, _, _, _, _, _, _, _, _, c, _ => by simp [cmpD] at c
  | _, _, .tup _, .ty _, _, _, _, _, _, _, _, _, _, _, _, c, _ => by simp [cmpD] at c
  | _, _, .tup _, .gl _, _, _, _, _, _, _, _, _, _, _, _, c, _ => by simp [cmpD] at c
  | _, _, .tup _, .exv _, _, _, _, _, _, _, _, _, _, _, _, c, _ => by simp [cmpD] at c
def lttO (x y : D) (_ : Store) : Option D := if (cmpOk x && cmpOk y && cmpD x y) = true then some (.bl (ltD x y)) else none
def lttG (x y : D) : F := optF (lttO x y)
theorem opd_ltt {n : Nat} (hK : X.K = G.K) (hu : X.A.units + 130 < cLine) : OpF G X (compareOp .Lt) lttG := by
  refine ⟨fun v w H Q => ∃ (m : Mp) (x y : D), Rep G m H v x ∧ Rep G m H w y ∧ cmpOk x = true ∧ cmpOk y = true ∧ cmpD x y = true ∧ Q (.bl (ltD x y)) H, ?_, fun W τ m S σ H Q v w x y rv rw_ hA => ?_⟩
  · intro pins s σ H v w a b Q I rx ry h
    obtain ⟨m, x, y, h1, h2, c1, c2, c3, q⟩ := h
    have hd : depD x ≤ 64 := by
      unfold cmpOk at c1
      simp only [Bool.and_eq_true, decide_eq_true_eq] at c1
      exact c1.2
    have R := rc_lt I hK 64 X.A x y v w a b hd h1 h2 rx ry c1 c2 c3 (by omega)
    have z : wpAny (model X.prog X.w) X.A (compareOp .Lt a b) (EP X pins σ Q) X.xe s := R X.prog X.w X.xe (EP X pins σ Q) ⟨.bl _, H, I, rfl, q⟩
    exact z
  · unfold lttG at hA
    obtain ⟨d, hd, k⟩ := hA.fin
    unfold lttO at hd
    split at hd
    · rename_i hc
      cases hd
      simp only [Bool.and_eq_true] at hc
      exact ⟨m, x, y, rv, rw_, hc.1.1, hc.1.2, hc.2, k m H _ (Ext.refl _ _) hA.sr (.bl _)⟩
    · cases hd
end
end Dx

set_option Elab.async false
set_option linter.all false
set_option maxRecDepth 100000
set_option maxHeartbeats 4000000
/-! DX: dicts whose keys are tuples of ints and texts. -/
namespace Dx
open PySem PySem.Spec PyProof.Rows L2
/-- the key that a tuple's items are -/
def keyOf : List D → Option (List Key)
  | [] => some []
  | .int i :: r => (keyOf r).map (.inl i :: ·)
  | .str x :: r => (keyOf r).map (.inr x :: ·)
  | _ => none
theorem keyOf_eq : ∀ {ds : List D} {k : List Key}, keyOf ds = some k → ds = k.map keyI
  | [], k, h => by cases h; rfl
  | d :: ds, k, h => by
    cases d <;> simp only [keyOf] at h <;> first | (obtain ⟨r, h1, rfl⟩ := Option.map_eq_some_iff.mp h; rw [keyOf_eq h1]; rfl) | cases h
theorem keyOf_rep {G : Gr} {m : Mp} {H : Hp} : ∀ {ds : List D} {k : List Key} {vs : List V}, keyOf ds = some k → RepAll G m H vs ds → vs = k.map kV
  | [], k, _, h, r => by cases h; cases r; rfl
  | d :: ds, k, _, h, r => by
    cases r with
    | cons a r =>
      cases d <;> simp only [keyOf] at h <;> first | (obtain ⟨q, h1, rfl⟩ := Option.map_eq_some_iff.mp h; cases a; rw [keyOf_rep h1 r]; rfl) | cases h
theorem keyOf_map : ∀ (k : List Key), keyOf (k.map keyI) = some k
  | [] => rfl
  | .inl i :: k => by simp [keyOf, keyI, keyOf_map k]
  | .inr i :: k => by simp [keyOf, keyI, keyOf_map k]
def valD (kvs : List (List Key × D)) (k : List Key) : Option D := (kvs.find? fun kv => decide (kv.1 = k)).map (·.2)
def putD (kvs : List (List Key × D)) (k : List Key) (d : D) : List (List Key × D) :=
  if (kvs.any fun kv => decide (kv.1 = k)) = true then kvs.map (fun kv => if kv.1 = k then (kv.1, d) else kv) else kvs ++ [(k, d)]
section
variable {G : Gr} {m : Mp} {H : Hp}
theorem DctR.val {k : List Key} : ∀ {ws : List (List Key × V)} {kvs : List (List Key × D)}, DctR G m H ws kvs → ∀ {d : D}, valD kvs k = some d → ∃ v, valV ws k = some v ∧ Rep G m H v d
  | _, _, .nil, d, h => by simp [valD] at h
  | _, _, @DctR.cons _ _ _ k' v d' ws kvs a r, d, h => by
    unfold valD valV at *
    simp only [List.find?_cons] at h ⊢
    by_cases e : k' = k
    · simp only [e, decide_true] at h ⊢
      cases h
      exact ⟨v, rfl, a⟩
    · simp only [e, decide_false] at h ⊢
      exact DctR.val r h
theorem DctR.any {k : List Key} : ∀ {ws : List (List Key × V)} {kvs : List (List Key × D)}, DctR G m H ws kvs → (ws.any fun kv => decide (kv.1 = k)) = (kvs.any fun kv => decide (kv.1 = k))
  | _, _, .nil => rfl
  | _, _, .cons _ r => by simp only [List.any_cons, DctR.any r]
theorem DctR.valN {k : List Key} : ∀ {ws : List (List Key × V)} {kvs : List (List Key × D)}, DctR G m H ws kvs → valD kvs k = none → valV ws k = none
  | _, _, .nil, _ => rfl
  | _, _, @DctR.cons _ _ _ k' v d' ws kvs a r, h => by
    unfold valD valV at *
    simp only [List.find?_cons] at h ⊢
    by_cases e : k' = k
    · simp [e] at h
    · simp only [e, decide_false] at h ⊢
      exact DctR.valN r h
theorem DctR.snoc {k : List Key} {v : V} {d : D} (q : Rep G m H v d) : ∀ {ws : List (List Key × V)} {kvs : List (List Key × D)}, DctR G m H ws kvs → DctR G m H (ws ++ [(k, v)]) (kvs ++ [(k, d)])
  | _, _, .nil => .cons q .nil
  | _, _, .cons a r => .cons a (DctR.snoc q r)
theorem DctR.repl {k : List Key} {v : V} {d : D} (q : Rep G m H v d) : ∀ {ws : List (List Key × V)} {kvs : List (List Key × D)}, DctR G m H ws kvs → DctR G m H (ws.map fun kv => if kv.1 = k then (kv.1, v) else kv) (kvs.map fun kv => if kv.1 = k then (kv.1, d) else kv)
  | _, _, .nil => .nil
  | _, _, @DctR.cons _ _ _ k' v' d' ws kvs a r => by
    simp only [List.map_cons]
    by_cases e : k' = k
    · simp only [e, if_true]; exact .cons q (DctR.repl q r)
    · simp only [e, if_false]; exact .cons a (DctR.repl q r)
theorem DctR.put {k : List Key} {v : V} {d : D} {ws : List (List Key × V)} {kvs : List (List Key × D)} (r : DctR G m H ws kvs) (q : Rep G m H v d) : DctR G m H (putK ws k v) (putD kvs k d) := by
  unfold putK putD
  rw [r.any]
  by_cases e : (kvs.any fun kv => decide (kv.1 = k)) = true
  · rw [if_pos e, if_pos e]; exact r.repl q
  · rw [if_neg e, if_neg e]; exact r.snoc q
theorem DctR.keys : ∀ {ws : List (List Key × V)} {kvs : List (List Key × D)}, DctR G m H ws kvs → ws.map (·.1) = kvs.map (·.1)
  | _, _, .nil => rfl
  | _, _, .cons _ r => by simp only [List.map_cons, DctR.keys r]
/-- a dict of the store -/
theorem dct_of {S : Store} {n : Nat} {v : V} {kvs : List (List Key × D)} (sr : SR G m S H) (r : Rep G m H v (.obj n)) (h : S[n]? = some (.dct kvs)) : ∃ a ws, v = .ref a ∧ m.sl[n]? = some (some a) ∧ H a = some (.dT ws) ∧ DctR G m H ws kvs := by
  cases r with
  | @obj n a h1 h2 =>
    cases q : m.sl[n]? with
    | none => rw [List.getElem?_eq_none_iff] at q; omega
    | some o =>
      cases o with
      | none =>
        have z := sr.dead n q
        rw [h] at z; cases z
      | some b =>
        have e := h2 b q
        subst e
        obtain ⟨ws, hx, rx⟩ := sr.at_ n b _ q h
        exact ⟨b, ws, rfl, rfl, hx, rx⟩
end
/-! ### {} -/
def dnewF : F := fun _ S Q _ => Q (.obj S.length) (S ++ [.dct []])
section
variable {G : Gr} {X : Cx} {W : WX} {o i value : Expr} {es : List Expr} {pos sp tp : Pos} {fo fi fv : F} {fk : FG (List D)}
theorem e_dnew : PE X (.Dict [] [] pos) (tE G W dnewF) :=
  PE.imp pe_dnewT fun σ H Q ⟨τ, m, S, QD, QE, sr, er, hf, k, px⟩ p hp => by
    unfold dnewF at hf
    rw [sr.len] at hf
    exact k (m.snoc p) (S ++ [.dct []]) _ (.ref p) (.obj m.sl.length) (Ext.obj sr hp) (sr.objG (ob := .dct []) hp ⟨[], rfl, .nil⟩) rep_obj hf
/-! ### d[(..)] = v -/
def dputS (fv fo : F) (fk : FG (List D)) : FS := fun E τ S => bindF fv (fun d => bindF fo fun o => bindF fk fun ks => fun τ S Q _ => ks.length ≤ sizeLine ∧ match o with
  | .obj n => (match S[n]? with
    | some (.dct kvs) => (match keyOf ks with
      | some k => kvs.length < sizeLine ∧ Q () (S.set n (.dct (putD kvs k d)))
      | none => False)
    | _ => False)
  | _ => False) τ S (fun _ S' => E.nx τ S') (fun x S' => E.ex x τ S')
theorem s_dput {x1} (hu : X.A.units + 1 < cLine) (hv : PE X value (tE G W fv)) (ho : PE X o (tE G W fo)) (hk : PA X es (tA G W fk)) (hs : swapsWith value (some (.Subscript o (.Tuple es x1 tp) sp)) pos.line X.env = pure false) :
    PS X (.Assign [.Subscript o (.Tuple es x1 tp) sp] value pos) (tS G W (dputS fv fo fk)) := by
  refine PS.imp (ps_dput hu ho (pe_tup hk) hv hs) fun D σ H ⟨τ, m, S, E, sr, er, hf, p⟩ => ?_
  have hA : At G (fun _ _ (_ : Unit) (_ : Unit) => True) W (bindF fv (fun d => bindF fo fun o => bindF fk fun ks => fun τ S Q _ => ks.length ≤ sizeLine ∧ match o with
    | .obj n => (match S[n]? with
      | some (.dct kvs) => (match keyOf ks with
        | some k => kvs.length < sizeLine ∧ Q () (S.set n (.dct (putD kvs k d)))
        | none => False)
      | _ => False)
    | _ => False)) τ m S σ H (fun _ H' => D.nx σ H') :=
    ⟨fun _ S' => E.nx τ S', fun x S' => E.ex x τ S', sr, er, hf, fun m1 S1 H1 _ _ e1 sr1 _ q => p.nx m1 S1 H1 σ τ e1 sr1 (er.mono sr e1) q, p.px er sr⟩
  refine ⟨τ, m, S, hA.seq fun m1 S1 H1 v d e1 sr1 r1 h1 => ⟨τ, m1, S1, h1.seq fun m2 S2 H2 ov od e2 sr2 r2 h2 => ⟨τ, m2, S2, h2.seq fun m3 S3 H3 kv kd e3 sr3 r3 h3 => ?_⟩⟩⟩
  obtain ⟨QD, QE, sr, er, hf, k, px⟩ := h3
  obtain ⟨hz, hf⟩ := hf
  refine ⟨by rw [r3.length]; exact hz, fun b hb => ?_⟩
  split at hf
  · split at hf
    · rename_i n kvs hs
      split at hf
      · rename_i ky hky
        obtain ⟨hl, hf⟩ := hf
        have e4 : Ext m3 H3 m3 (upd H3 b (.tup kv)) := Ext.upd sr hb
        have sr4 := sr.upd (o := .tup kv) hb
        obtain ⟨a, ws, rfl, hm, hH, rx⟩ := dct_of sr4 ((r2.mono sr2 e3).mono sr e4) hs
        refine ⟨a, upd (upd H3 b (.tup kv)) a (.dT (putK ws ky v)), rfl, DPut.t hH (by rw [upd_same, keyOf_rep hky r3]) (by rw [rx.length]; exact hl), ?_⟩
        have e5 : Ext m3 (upd H3 b (.tup kv)) m3 (upd (upd H3 b (.tup kv)) a (.dT (putK ws ky v))) := Ext.write sr4 hm
        refine k m3 _ _ () () (e4.trans e5) (sr4.writeG (ob := .dct (putD kvs ky _)) hm ⟨_, rfl, rx.put ((((r1.mono sr1 e2).mono sr2 e3).mono sr e4))⟩ (fun _ z => nomatch z)) trivial hf
      · exact hf.elim
    · exact hf.elim
  · exact hf.elim
/-! ### d[k] -/
def tDGetS (K : PySem.W.Frag) (td ty : TE) : TE := fun σ H Q => td σ H fun x H1 => ty σ H1 fun y H2 => ∃ a b ws k v, x = .ref a ∧ y = .ref b ∧ Rd H2 a (.dT ws) ∧ SqT K H2 b (k.map kV) ∧ valV ws k = some v ∧ Q v H2
theorem pe_dgetS {td ty : TE} (hu : X.A.units + 1 < cLine) (ho : PE X o td) (hi : PE X i ty) (hs : NoSl i) : PE X (.Subscript o i pos) (tDGetS X.K td ty) := by
  refine ⟨fun pins s σ H Q I h => ?_⟩
  refine subD_of PySem.F.slot_dict_getitem.lookup hs (thn (ho.run pins s σ H _ I h) fun u s1 ⟨x, H1, I1, rx, q1⟩ => thn (hi.run pins s1 σ H1 _ I1 q1) fun iv s2 ⟨y, H2, I2, ry, a, b, ws, k, v, ex, ey, hd, hb, hv, q2⟩ => ?_)
  subst ex ey
  obtain rfl : u = Value.ref a := rx
  obtain rfl : iv = Value.ref b := ry
  obtain ⟨z, hsy, xs, rel, dd⟩ := dt_rd I2.hok hd
  obtain ⟨its, rv, ⟨ob, h1, h2, n, h3⟩, _⟩ := I2.tuple hb
  have hkey : (tupleKind (mixKind X.prog X.w)).is s2.heap k b := ⟨ob, its.toArray, n, h1, h2, h3, by simpa using items_are rv⟩
  obtain ⟨w', hw, rw'⟩ := RelO.some_of (v := v) (o := (atKey xs k).map (·.2)) (by rw [← hv]; exact rel.val k)
  obtain ⟨p, hp, hp2⟩ := Option.map_eq_some_iff.mp hw
  refine ⟨dd.typeIs, wpAny_getItem_heap (tupleKind_room_in1 hu) hkey dd hp ?_⟩
  rw [hp2]
  exact ⟨v, H2, I2.tok _, rw', q2⟩
def dgetF (o i : D) : F := fun _ S Q _ => match o, i with
  | .obj n, .tup ks => (match S[n]?, keyOf ks with
    | some (.dct kvs), some k => (match valD kvs k with | some d => Q d S | none => False)
    | _, _ => False)
  | _, _ => False
theorem e_dget (hK : X.K = G.K) (hu : X.A.units + 1 < cLine) (ho : PE X o (tE G W fo)) (hi : PE X i (tE G W fi)) (hs : NoSl i) : PE X (.Subscript o i pos) (tE G W (bindF fo fun o => bindF fi fun i => dgetF o i)) :=
  PE.imp (pe_dgetS hu ho hi hs) fun σ H Q ⟨τ, m, S, h⟩ => ⟨τ, m, S, h.seq fun m1 S1 H1 ov od e1 sr1 r1 h1 => ⟨τ, m1, S1, h1.seq fun m2 S2 H2 iv id e2 sr2 r2 h2 => by
    obtain ⟨QD, QE, sr, er, hf, k, px⟩ := h2
    unfold dgetF at hf
    split at hf
    · split at hf
      · rename_i kvs ky h1 h2
        split at hf
        · rename_i d hd
          obtain ⟨a, ws, rfl, hm, hH, rx⟩ := dct_of sr (r1.mono sr1 e2) h1
          obtain ⟨b, vs, rfl, t1, ra⟩ := r2.getT rfl
          obtain ⟨v, hv, rv⟩ := rx.val hd
          refine ⟨a, b, ws, ky, v, rfl, rfl, .inl hH, ?_, hv, k m2 S2 H2 _ _ (Ext.refl _ _) sr rv hf⟩
          rw [hK, ← keyOf_rep h2 ra]
          exact t1
        · exact hf.elim
      · exact hf.elim
    · exact hf.elim⟩⟩
end
end Dx

set_option Elab.async false
set_option linter.all false
set_option maxRecDepth 100000
set_option maxHeartbeats 4000000
/-! DX: sorted: of lists and of dicts of ints, tuples, alike in shape. -/
namespace Dx
open PySem PySem.Spec PyProof.Rows L2
mutual
/-- alike in shape: ints, or tuples alike in shape at each place -/
def sameD : D → D → Bool
  | .int _, .int _ => true
  | .tup xs, .tup ys => sameDs xs ys
  | _, _ => false
def sameDs : List D → List D → Bool
  | [], [] => true
  | x :: xs, y :: ys => sameD x y && sameDs xs ys
  | _, _ => false
end
mutual
def flatD : D → List Int
  | .int i => [i]
  | .tup ds => flatDs ds
  | _ => []
def flatDs : List D → List Int
  | [] => []
  | d :: ds => flatD d ++ flatDs ds
end
def lexI : List Int → List Int → Bool
  | [], [] => false
  | [], _ :: _ => true
  | _ :: _, [] => false
  | x :: xs, y :: ys => if x = y then lexI xs ys else decide (x < y)
theorem lexI_asym : ∀ (x y : List Int), lexI x y = true → lexI y x = false
  | [], [], h => by simp [lexI] at h
  | [], _ :: _, _ => rfl
  | _ :: _, [], h => by simp [lexI] at h
  | x :: xs, y :: ys, h => by
    unfold lexI at h ⊢
    by_cases e : x = y
    · rw [if_pos e] at h
      rw [if_pos e.symm]
      exact lexI_asym xs ys h
    · rw [if_neg e] at h
      rw [if_neg (fun z => e z.symm)]
      have := of_decide_eq_true h
      exact decide_eq_false (by omega)
theorem lexI_tr : ∀ (x y z : List Int), lexI y x = false → lexI z y = false → lexI z x = false
  | [], y, z, h1, h2 => by
    cases z with
    | nil => rfl
    | cons a b => rfl
  | x :: xs, [], z, h1, h2 => by simp [lexI] at h1
  | x :: xs, y :: ys, [], h1, h2 => by simp [lexI] at h2
  | x :: xs, y :: ys, z :: zs, h1, h2 => by
    unfold lexI at h1 h2 ⊢
    by_cases e : y = x
    · rw [if_pos e] at h1
      by_cases e2 : z = y
      · rw [if_pos e2] at h2
        rw [if_pos (e2.trans e)]
        exact lexI_tr xs ys zs h1 h2
      · rw [if_neg e2] at h2
        rw [if_neg (fun q => e2 (q.trans e.symm)), ← e]
        exact h2
    · rw [if_neg e] at h1
      have a1 := of_decide_eq_false h1
      by_cases e2 : z = y
      · rw [if_pos e2] at h2
        rw [if_neg (fun q => e (e2.symm.trans q)), e2]
        exact h1
      · rw [if_neg e2] at h2
        have a2 := of_decide_eq_false h2
        rw [if_neg (by omega)]
        exact decide_eq_false (by omega)
theorem lexI_app : ∀ (a b c d : List Int), a.length = b.length → lexI (a ++ c) (b ++ d) = if a = b then lexI c d else lexI a b
  | [], [], c, d, _ => by simp
  | [], _ :: _, _, _, h => by simp at h
  | _ :: _, [], _, _, h => by simp at h
  | x :: a, y :: b, c, d, h => by
    have l1 : lexI (x :: a ++ c) (y :: b ++ d) = if x = y then lexI (a ++ c) (b ++ d) else decide (x < y) := rfl
    have l2 : lexI (x :: a) (y :: b) = if x = y then lexI a b else decide (x < y) := rfl
    rw [l1, l2]
    by_cases e : x = y
    · rw [if_pos e, if_pos e, lexI_app a b c d (by simpa using h)]
      by_cases e2 : a = b
      · simp [e, e2]
      · simp [e, e2]
    · rw [if_neg e, if_neg e]
      simp [e]
mutual
theorem flat_len : ∀ (x y : D), sameD x y = true → (flatD x).length = (flatD y).length
  | .int _, .int _, _ => rfl
  | .tup xs, .tup ys, h => by
    simp only [sameD] at h
    simp only [flatD]
    exact flats_len xs ys h
  | .int _, .tup _, h => by simp [sameD] at h
  | .int _, .non, h => by simp [sameD] at h
  | .int _, .bl _, h => by simp [sameD] at h
  | .int _, .str _, h => by simp [sameD] at h
  | .int _, .lst _, h => by simp [sameD] at h
  | .int _, .obj _, h => by simp [sameD] at h
  | .int _, .ty _, h => by simp [sameD] at h
  | .int _, .gl _, h => by simp [sameD] at h
  | .int _, .exv _, h => by simp [sameD] at h
  | .tup _, .int _, h => by simp [sameD] at h
  | .tup _, .non, h => by simp [sameD] at h
  | .tup _, .bl _, h => by simp [sameD] at h
  | .tup _, .str _, h => by simp [sameD] at h
  | .tup _, .lst _, h => by simp [sameD] at h
  | .tup _, .obj _, h => by simp [sameD] at h
  | .tup _, .ty _, h => by simp [sameD] at h
  | .tup _, .gl _, h => by simp [sameD] at h
  | .tup _, .exv _, h => by simp [sameD] at h
  | .non, _, h => by simp [sameD] at h
  | .bl _, _, h => by simp [sameD] at h
  | .str _, _, h => by simp [sameD] at h
  | .lst _, _, h => by simp [sameD] at h
  | .obj _, _, h => by simp [sameD] at h
  | .ty _, _, h => by simp [sameD] at h
  | .gl _, _, h => by simp [sameD] at h
  | .exv _, _, h => by simp [sameD] at h
theorem flats_len : ∀ (xs ys : List D), sameDs xs ys = true → (flatDs xs).length = (flatDs ys).length
  | [], [], _ => rfl
  | [], _ :: _, h => by simp [sameDs] at h
  | _ :: _, [], h => by simp [sameDs] at h
  | x :: xs, y :: ys, h => by
    simp only [sameDs, Bool.and_eq_true] at h
    simp only [flatDs, List.length_append, flat_len x y h.1, flats_len xs ys h.2]
end
/-- by cases on two things alike in shape -/
theorem same_cases {x y : D} (h : sameD x y = true) : (∃ i j, x = .int i ∧ y = .int j) ∨ ∃ xs ys, x = .tup xs ∧ y = .tup ys ∧ sameDs xs ys = true := by
  cases x <;> cases y <;> first | exact .inl ⟨_, _, rfl, rfl⟩ | exact .inr ⟨_, _, rfl, rfl, by simpa [sameD] using h⟩ | (simp [sameD] at h)
mutual
theorem flat_eq : ∀ (x y : D), sameD x y = true → eqD x y = decide (flatD x = flatD y)
  | .int i, .int j, _ => by simp [eqD, flatD]; rfl
  | .tup xs, .tup ys, h => by
    simp only [sameD] at h
    simp only [eqD, flatD]
    exact flats_eq xs ys h
  | .int i, .tup _, h => by simp [sameD] at h
  | .int _, .non, h => by simp [sameD] at h
  | .int _, .bl _, h => by simp [sameD] at h
  | .int _, .str _, h => by simp [sameD] at h
  | .int _, .lst _, h => by simp [sameD] at h
  | .int _, .obj _, h => by simp [sameD] at h
  | .int _, .ty _, h => by simp [sameD] at h
  | .int _, .gl _, h => by simp [sameD] at h
  | .int _, .exv _, h => by simp [sameD] at h
  | .tup _, .int _, h => by simp [sameD] at h
  | .tup _, .non, h => by simp [sameD] at h
  | .tup _, .bl _, h => by simp [sameD] at h
  | .tup _, .str _, h => by simp [sameD] at h
  | .tup _, .lst _, h => by simp [sameD] at h
  | .tup _, .obj _, h => by simp [sameD] at h
  | .tup _, .ty _, h => by simp [sameD] at h
  | .tup _, .gl _, h => by simp [sameD] at h
  | .tup _, .exv _, h => by simp [sameD] at h
  | .non, _, h => by simp [sameD] at h
  | .bl _, _, h => by simp [sameD] at h
  | .str _, _, h => by simp [sameD] at h
  | .lst _, _, h => by simp [sameD] at h
  | .obj _, _, h => by simp [sameD] at h
  | .ty _, _, h => by simp [sameD] at h
  | .gl _, _, h => by simp [sameD] at h
  | .exv _, _, h => by simp [sameD] at h
theorem flats_eq : ∀ (xs ys : List D), sameDs xs ys = true → eqDs xs ys = decide (flatDs xs = flatDs ys)
  | [], [], _ => by simp [eqDs]
  | [], _ :: _, h => by simp [sameDs] at h
  | _ :: _, [], h => by simp [sameDs] at h
  | x :: xs, y :: ys, h => by
    simp only [sameDs, Bool.and_eq_true] at h
    have hl := flat_len x y h.1
    simp only [eqDs, flatDs, flat_eq x y h.1, flats_eq xs ys h.2]
    by_cases e : flatD x = flatD y
    · simp [e]
    · have : ¬ (flatD x ++ flatDs xs = flatD y ++ flatDs ys) := fun z => e (List.append_inj_left z hl)
      simp [e, this]
end
mutual
theorem flat_lt : ∀ (x y : D), sameD x y = true → ltD x y = lexI (flatD x) (flatD y)
  | .int i, .int j, _ => by
    simp only [ltD, flatD, lexI]
    by_cases e : i = j
    · simp [e]
    · simp [e]
  | .tup xs, .tup ys, h => by
    simp only [sameD] at h
    simp only [ltD, flatD]
    exact flats_lt xs ys h
  | .int i, .tup _, h => by simp [sameD] at h
  | .int _, .non, h => by simp [sameD] at h
  | .int _, .bl _, h => by simp [sameD] at h
  | .int _, .str _, h => by simp [sameD] at h
  | .int _, .lst _, h => by simp [sameD] at h
  | .int _, .obj _, h => by simp [sameD] at h
  | .int _, .ty _, h => by simp [sameD] at h
  | .int _, .gl _, h => by simp [sameD] at h
  | .int _, .exv _, h => by simp [sameD] at h
  | .tup _, .int _, h => by simp [sameD] at h
  | .tup _, .non, h => by simp [sameD] at h
  | .tup _, .bl _, h => by simp [sameD] at h
  | .tup _, .str _, h => by simp [sameD] at h
  | .tup _, .lst _, h => by simp [sameD] at h
  | .tup _, .obj _, h => by simp [sameD] at h
  | .tup _, .ty _, h => by simp [sameD] at h
  | .tup _, .gl _, h => by simp [sameD] at h
  | .tup _, .exv _, h => by simp [sameD] at h
  | .non, _, h => by simp [sameD] at h
  | .bl _, _, h => by simp [sameD] at h
  | .str _, _, h => by simp [sameD] at h
  | .lst _, _, h => by simp [sameD] at h
  | .obj _, _, h => by simp [sameD] at h
  | .ty _, _, h => by simp [sameD] at h
  | .gl _, _, h => by simp [sameD] at h
  | .exv _, _, h => by simp [sameD] at h
theorem flats_lt : ∀ (xs ys : List D), sameDs xs ys = true → ltDs xs ys = lexI (flatDs xs) (flatDs ys)
  | [], [], _ => rfl
  | [], _ :: _, h => by simp [sameDs] at h
  | _ :: _, [], h => by simp [sameDs] at h
  | x :: xs, y :: ys, h => by
    simp only [sameDs, Bool.and_eq_true] at h
    have hl := flat_len x y h.1
    simp only [ltDs, flatDs]
    rw [flat_eq x y h.1, flat_lt x y h.1, flats_lt xs ys h.2, lexI_app _ _ _ _ hl]
    simp
end
/-! ### seen on the heap -/
mutual
/-- a value is an int or a tuple of such -/
inductive VD (h : Heap) : Value → D → Prop
  | int (i : Int) (t : Tok) : VD h (.int i t) (.int i)
  | tup {a : Addr} {o : Obj} {us : Array Value} {n : Nat} {ds : List D} : h.get? a = some o → o.cls = .type "tuple" → o.data = .seq us n → VDs h us.toList ds → VD h (.ref a) (.tup ds)
inductive VDs (h : Heap) : List Value → List D → Prop
  | nil : VDs h [] []
  | cons {v : Value} {vs : List Value} {d : D} {ds : List D} : VD h v d → VDs h vs ds → VDs h (v :: vs) (d :: ds)
end
mutual
theorem VD.inj {h : Heap} : ∀ {v : Value} {d e : D}, VD h v d → VD h v e → d = e
  | _, _, _, .int _ _, .int _ _ => rfl
  | _, _, _, .tup h1 c1 d1 r1, .tup h2 c2 d2 r2 => by
    rw [h1] at h2
    cases h2
    rw [d1] at d2
    cases d2
    rw [VDs.inj r1 r2]
theorem VDs.inj {h : Heap} : ∀ {v : List Value} {d e : List D}, VDs h v d → VDs h v e → d = e
  | _, _, _, .nil, .nil => rfl
  | _, _, _, .cons a r, .cons b s => by rw [VD.inj a b, VDs.inj r s]
end
mutual
theorem VD.keeps {h h' : Heap} (k : ∀ b o, h.get? b = some o → o.cls = .type "tuple" → h'.get? b = some o) : ∀ {v : Value} {d : D}, VD h v d → VD h' v d
  | _, _, .int i t => .int i t
  | _, _, .tup h1 c d r => .tup (k _ _ h1 c) c d (VDs.keeps k r)
theorem VDs.keeps {h h' : Heap} (k : ∀ b o, h.get? b = some o → o.cls = .type "tuple" → h'.get? b = some o) : ∀ {v : List Value} {d : List D}, VDs h v d → VDs h' v d
  | _, _, .nil => .nil
  | _, _, .cons a r => .cons (VD.keeps k a) (VDs.keeps k r)
end
theorem VDs.length {h : Heap} : ∀ {v : List Value} {d : List D}, VDs h v d → v.length = d.length
  | _, _, .nil => rfl
  | _, _, .cons _ r => by simp [VDs.length r]
theorem VDs.get {h : Heap} : ∀ {v : List Value} {ds : List D} {j : Nat} (h1 : j < v.length) (h2 : j < ds.length), VDs h v ds → VD h v[j] ds[j]
  | _ :: _, _ :: _, 0, _, _, .cons a _ => a
  | _ :: _, _ :: _, j + 1, h1, h2, .cons _ r => VDs.get (j := j) (by simpa using h1) (by simpa using h2) r
mutual
theorem VD.reads {h : Heap} : ∀ {v : Value} {d : D} {p : PyData}, VD h v d → toPy d = some p → ∃ as, Reads h v p as
  | _, _, _, .int i t, e => by cases e; exact ⟨_, .int i t⟩
  | _, _, _, .tup h1 c d r, e => by
    obtain ⟨ps, e1, rfl⟩ := toPy_tup e
    obtain ⟨as, q⟩ := VDs.reads r e1
    exact ⟨_, .tuple h1 c d q⟩
theorem VDs.reads {h : Heap} : ∀ {v : List Value} {d : List D} {ps : List PyData}, VDs h v d → toPys d = some ps → ∃ as, ReadsAll h v ps as
  | _, _, _, .nil, e => by cases e; exact ⟨_, .nil⟩
  | _, _, _, .cons a r, e => by
    obtain ⟨p, qs, h1, h2, rfl⟩ := toPys_cons e
    obtain ⟨as, q1⟩ := VD.reads a h1
    obtain ⟨bs, q2⟩ := VDs.reads r h2
    exact ⟨_, .cons q1 q2⟩
end
section
variable {prog : Program} {w : World} {A : Around} {E : Value → Shared → Prop} {s : Shared}
theorem vd_eqAt {x y : D} {a b : Value} (ra : VD s.heap a x) (rb : VD s.heap b y) (cx : cmpOk x = true) (cy : cmpOk y = true) (hu : A.units + 64 < cLine) : SeqAt.EqAt A s a b (eqD x y) := by
  obtain ⟨p, p1, p2⟩ := cmpOk_py cx
  obtain ⟨q, q1, q2⟩ := cmpOk_py cy
  obtain ⟨as, r1⟩ := ra.reads p1
  obtain ⟨bs, r2⟩ := rb.reads q1
  rw [← eqv_eqD x y p q p1 q1]
  exact SeqAt.eqAt_reads p q A s a b as bs r1 r2 (SeqAt.canLay_of_shaped p2) (SeqAt.canLay_of_shaped q2) (SeqAt.room_of_shaped p2 hu)
theorem depD_item : ∀ (l : List D) (j : Nat) (hj : j < l.length), depD l[j] ≤ depDs l
  | [], j, hj => absurd hj (by simp)
  | x :: l, 0, hj => by simp only [depDs, List.getElem_cons_zero]; omega
  | x :: l, j + 1, hj => by
    have := depD_item l j (by simpa using hj)
    simp only [depDs, List.getElem_cons_succ]
    omega
theorem sameDs_at : ∀ {xs ys : List D} {j : Nat} (h1 : j < xs.length) (h2 : j < ys.length), sameDs xs ys = true → sameD xs[j] ys[j] = true
  | x :: xs, y :: ys, 0, _, _, h => by simp only [sameDs, Bool.and_eq_true] at h; exact h.1
  | x :: xs, y :: ys, j + 1, h1, h2, h => by
    simp only [sameDs, Bool.and_eq_true] at h
    simp only [List.getElem_cons_succ]
    exact sameDs_at (by simpa using h1) (by simpa using h2) h.2
theorem vd_lt : ∀ (n : Nat) (A : Around) (x y : D) (a b : Value), depD x ≤ n → VD s.heap a x → VD s.heap b y → cmpOk x = true → cmpOk y = true → sameD x y = true → A.units + 65 + n < cLine → Ob.RcOp .Lt A s a b (ltD x y) := by
  intro n
  induction n with
  | zero =>
    intro A x y a b hn ra rb cx cy c hu
    rcases same_cases c with ⟨i, j, rfl, rfl⟩ | ⟨xs, ys, rfl, rfl, hs⟩
    · cases ra; cases rb; exact Ob.RcOp.lt_int i j _ _
    · simp [depD] at hn
  | succ n ih =>
    intro A x y a b hn ra rb cx cy c hu
    rcases same_cases c with ⟨i, j, rfl, rfl⟩ | ⟨xs, ys, rfl, rfl, hs⟩
    · cases ra; cases rb; exact Ob.RcOp.lt_int i j _ _
    cases ra with
    | @tup a' o us k _ h1 c1 d1 q1 =>
    cases rb with
    | @tup b' o2 us2 k2 _ h2 c2 d2 q2 =>
    have l1 : us.size = xs.length := by rw [← q1.length, Array.length_toList]
    have l2 : us2.size = ys.length := by rw [← q2.length, Array.length_toList]
    have hun : A.in1.units = A.units + 1 := Around.in1_units A
    have R := Ob.RcOp.tuples_lt (A := A) (s := s) (l := a') (b := b') (items := us) (items2 := us2) (e := fun j => if h : j < xs.length ∧ j < ys.length then eqD (xs[j]'h.1) (ys[j]'h.2) else true) (r := fun j => if h : j < xs.length ∧ j < ys.length then ltD (xs[j]'h.1) (ys[j]'h.2) else true) ⟨o, h1, c1, k, d1⟩ ⟨o2, h2, c2, k2, d2⟩ (by omega) (fun j h1 h2 => ?_) (fun j h1 h2 hf => ?_)
    · have e1 := ltDs_at xs ys 0 (min xs.length ys.length) (fun j => if h : j < xs.length ∧ j < ys.length then eqD (xs[j]'h.1) (ys[j]'h.2) else true) (fun j => if h : j < xs.length ∧ j < ys.length then ltD (xs[j]'h.1) (ys[j]'h.2) else true) rfl
        (fun j h1 h2 => by simp [h1, h2]) (fun j h1 h2 => by simp [h1, h2])
      rw [l1, l2, e1] at R
      exact R
    all_goals
      have j1 : j < xs.length := by rw [← l1]; exact h1
      have j2 : j < ys.length := by rw [← l2]; exact h2
      have v1 : VD s.heap us[j] xs[j] := by
        have := q1.get (j := j) (by simpa using h1) j1
        simpa using this
      have v2 : VD s.heap us2[j] ys[j] := by
        have := q2.get (j := j) (by simpa using h2) j2
        simpa using this
      simp only [j1, j2, and_self, dite_true]
    · exact vd_eqAt v1 v2 (cmpOk_item cx j1) (cmpOk_item cy j2) (by omega)
    · have dn : depD xs[j] ≤ n := by
        have := depD_item xs j j1
        simp only [depD] at hn
        omega
      exact ih A.in1 xs[j] ys[j] us[j] us2[j] dn v1 v2 (cmpOk_item cx j1) (cmpOk_item cy j2) (sameDs_at j1 j2 hs) (by omega)
/-! ### the sort asks -/
open SrtO in
theorem kat_items {b fin : Bool} {A : Around} : ∀ (us ws : List Value) (xs ys : List D) (i : Nat) (r : Bool), VDs s.heap us xs → VDs s.heap ws ys → sameDs xs ys = true → (∀ j (h : j < xs.length), cmpOk xs[j] = true) → (∀ j (h : j < ys.length), cmpOk ys[j] = true) → A.units + 140 < cLine →
    (b = true → i = 0 → ∀ x ∈ xs.head?, ∃ k, x = .int k) → (sameDs xs ys = true → us.length = ws.length → fin = false) → r = ltDs xs ys →
    PySem.W.KatLex prog w A b fin (fun q s' => s' = s ∧ q = r) (us.zip ws) i s := by
  intro us
  induction us with
  | nil =>
    intro ws xs ys i r r1 r2 hs hx hy hu hb hf hr
    cases r1
    cases ys with
    | cons _ _ => simp [sameDs] at hs
    | nil =>
      cases r2
      refine PySem.W.kat_nil ⟨rfl, ?_⟩
      rw [hf rfl rfl, hr]
      rfl
  | cons u us ih =>
    intro ws xs ys i r r1 r2 hs hx hy hu hb hf hr
    cases r1 with
    | @cons _ _ x xs a ra =>
    cases ys with
    | nil => simp [sameDs] at hs
    | cons y ys =>
    cases r2 with
    | @cons w' ws _ _ c rc =>
    simp only [sameDs, Bool.and_eq_true] at hs
    have cx := hx 0 (by simp)
    have cy := hy 0 (by simp)
    simp only [List.getElem_cons_zero] at cx cy
    refine PySem.W.kat_cons (vd_eqAt a c cx cy (by omega) prog w _ _ ?_)
    refine PySem.W.kat_go (fun e => PySem.W.kat_yes ?_) (fun e => PySem.W.kat_no ?_)
    · refine ih ws xs ys (i + 1) r ra rc hs.2 (fun j h => hx (j + 1) (by simpa using h)) (fun j h => hy (j + 1) (by simpa using h)) hu (fun _ z => by omega) (fun q1 q2 => hf (by simp [sameDs, hs.1, hs.2]) (by simp [q2])) ?_
      rw [hr]
      simp [ltDs, e]
    · have hr' : r = ltD x y := by rw [hr]; simp [ltDs, e]
      by_cases hbi : (b && i == 0) = true
      · simp only [Bool.and_eq_true, beq_iff_eq] at hbi
        obtain ⟨k, rfl⟩ := hb hbi.1 hbi.2 x (by simp)
        rcases same_cases hs.1 with ⟨p, q, e1, rfl⟩ | ⟨_, _, e1, _⟩
        · cases e1
          cases a with
          | int _ t => cases c with
            | int _ t' =>
              rw [hbi.1, hbi.2]
              exact oneLt_int ⟨rfl, by rw [hr']; rfl⟩
        · cases e1
      · have hbi' : (b && i == 0) = false := by simpa using hbi
        rw [hbi']
        have hd : depD x ≤ 64 := by
          unfold cmpOk at cx
          simp only [Bool.and_eq_true, decide_eq_true_eq] at cx
          exact cx.2
        refine PySem.W.kat_one _ _ (vd_lt 64 A x y u w' hd a c cx cy hs.1 (by omega) prog w _ _ ?_)
        exact ⟨rfl, by rw [hr']⟩
/-- fit to be sorted together -/
def fitS (ds : List D) : Bool := ds.all fun x => cmpOk x && !(flatD x).isEmpty && ds.all fun y => sameD x y
noncomputable def kOf (h : Heap) (v : Value) : List Int := open Classical in if e : ∃ d, VD h v d then flatD (Classical.choose e) else []
theorem kOf_eq {h : Heap} {v : Value} {d : D} (r : VD h v d) : kOf h v = flatD d := by
  have e : ∃ d, VD h v d := ⟨d, r⟩
  unfold kOf
  rw [dif_pos e, (Classical.choose_spec e).inj r]
theorem VDs.mem {h : Heap} {v : Value} : ∀ {vs : List Value} {ds : List D}, VDs h vs ds → v ∈ vs → ∃ d ∈ ds, VD h v d
  | _, _, .nil, hm => absurd hm (by simp)
  | _, _, .cons a r, hm => by
    rcases List.mem_cons.mp hm with rfl | hm
    · exact ⟨_, List.mem_cons_self, a⟩
    · obtain ⟨d, h1, h2⟩ := VDs.mem r hm
      exact ⟨d, List.mem_cons_of_mem _ h1, h2⟩
theorem flat_ne_nil {x : D} (h : (flatD x).isEmpty = false) : (∃ i, x = .int i) ∨ ∃ y ys, x = .tup (y :: ys) := by
  cases x <;> simp [flatD] at h
  · exact .inl ⟨_, rfl⟩
  · rename_i ds
    cases ds with
    | nil => simp [flatDs] at h
    | cons y ys => exact .inr ⟨y, ys, rfl⟩
open SrtO in
theorem vd_sortable {a : Addr} {vs : List Value} {ds : List D} (hv : VDs s.heap vs ds) (hf : fitS ds = true) (h2 : 2 ≤ vs.length) (hu : A.units + 140 < cLine) (ha : ∀ o, s.heap.get? a = some o → o.cls ≠ .type "tuple") :
    SortableO prog w A s a vs fun v u => lexI (kOf s.heap v) (kOf s.heap u) := by
  intro h' keep
  have kk : ∀ b o, s.heap.get? b = some o → o.cls = .type "tuple" → h'.get? b = some o := fun b o e c => keep b o (fun z => by subst z; exact ha o e c) e
  have hv' : VDs h' vs ds := hv.keeps kk
  unfold fitS at hf
  rw [List.all_eq_true] at hf
  have fit : ∀ x ∈ ds, cmpOk x = true ∧ (flatD x).isEmpty = false ∧ ∀ y ∈ ds, sameD x y = true := fun x hx => by
    have := hf x hx
    simp only [Bool.and_eq_true, Bool.not_eq_true', List.all_eq_true] at this
    exact ⟨this.1.1, this.1.2, this.2⟩
  have hl := hv.length
  obtain ⟨d0, ds0, e0⟩ : ∃ d0 ds0, ds = d0 :: ds0 := by
    cases ds with
    | nil => rw [hl] at h2; simp at h2
    | cons x xs => exact ⟨x, xs, rfl⟩
  have f0 := fit d0 (by rw [e0]; exact List.mem_cons_self)
  rcases flat_ne_nil f0.2.1 with ⟨i0, ei⟩ | ⟨y0, ys0, et⟩
  · -- ints
    have allI : ∀ (us : List Value) (es : List D), VDs h' us es → (∀ e ∈ es, e ∈ ds) → ∃ ns, IntsAre us ns := by
      intro us
      induction us with
      | nil => intro es _ _; exact ⟨[], .nil⟩
      | cons u us ih =>
        intro es h hm
        cases h with
        | @cons _ _ d es r rr =>
          obtain ⟨ns, hI⟩ := ih es rr fun e he => hm e (List.mem_cons_of_mem _ he)
          have sm := f0.2.2 d (hm d List.mem_cons_self)
          rcases same_cases sm with ⟨i, j, _, rfl⟩ | ⟨_, _, z, _⟩
          · cases r with
            | int _ t => exact ⟨j :: ns, .cons j t hI⟩
          · rw [ei] at z; cases z
    obtain ⟨ns, hI⟩ := allI vs ds hv' fun e h => h
    refine ⟨oneType', fun Q E hq => ?_, ?_⟩
    · match vs, hI, h2 with
      | v1 :: v2 :: rest, hI, _ =>
        rw [keyKind_ints hI]
        exact wpAny_pure hq
      | [], _, h => exact absurd h (by decide)
      | [v], _, h => exact absurd h (by simp)
    · intro p q hm hm'
      obtain ⟨d, hd, rd⟩ := hv.mem hm
      obtain ⟨e, he, re⟩ := hv.mem hm'
      have k1 := kOf_eq rd
      have k2 := kOf_eq re
      show wpAny (model prog w) A (keyLt' oneType' p.1 q.1) (fun r s' => s' = { s with heap := h' } ∧ r = lexI (kOf s.heap p.1) (kOf s.heap q.1)) (fun _ _ => False) { s with heap := h' }
      rw [k1, k2]
      obtain ⟨i, rfl⟩ : ∃ i, d = .int i := by
        rcases same_cases (f0.2.2 d hd) with ⟨i, j, _, rfl⟩ | ⟨_, _, z, _⟩
        · exact ⟨j, rfl⟩
        · rw [ei] at z; cases z
      obtain ⟨j, rfl⟩ : ∃ i, e = .int i := by
        rcases same_cases (f0.2.2 e he) with ⟨i, j, _, rfl⟩ | ⟨_, _, z, _⟩
        · exact ⟨j, rfl⟩
        · rw [ei] at z; cases z
      generalize p.1 = pv at rd
      generalize q.1 = qv at re
      cases rd with
      | int _ t => cases re with
        | int _ t' =>
          rw [keyLt'_oneType]
          refine oneLt_int ⟨rfl, ?_⟩
          rw [← flat_lt (.int i) (.int j) rfl]
          rfl
  · -- tuples
    have tups : ∀ d ∈ ds, ∃ y ys, d = .tup (y :: ys) := fun d hd => by
      rcases same_cases (f0.2.2 d hd) with ⟨i, j, z, _⟩ | ⟨_, ws, z, rfl, hs⟩
      · rw [et] at z; cases z
      · rw [et] at z; cases z
        cases ws with
        | nil => simp [sameDs] at hs
        | cons a b => exact ⟨a, b, rfl⟩
    have firsts : ∀ (us : List Value) (es : List D), VDs h' us es → (∀ e ∈ es, e ∈ ds) → ∃ fs, PySem.W.KatTups h' us fs ∧ fs.length = us.length ∧ ∀ f ∈ fs, ∃ y ys, D.tup (y :: ys) ∈ ds ∧ VD h' f y := by
      intro us
      induction us with
      | nil => intro es _ _; exact ⟨[], PySem.W.KatTups.nil, rfl, fun f h => absurd h (by simp)⟩
      | cons u us ih =>
        intro es h hm
        cases h with
        | @cons _ _ d es r rr =>
          obtain ⟨fs, q1, q2, q3⟩ := ih es rr fun e he => hm e (List.mem_cons_of_mem _ he)
          obtain ⟨y, ys, rfl⟩ := tups d (hm d List.mem_cons_self)
          have hmem := hm _ (List.mem_cons_self (a := D.tup (y :: ys)) (l := es))
          cases r with
          | @tup a' o us' n _ g1 c1 d1 rr1 =>
            obtain ⟨l, hl⟩ : ∃ l, us'.toList = l := ⟨_, rfl⟩
            rw [hl] at rr1
            cases rr1 with
            | @cons f fr _ _ rf rfr =>
              have g0 : us'[0]? = some f := by rw [← Array.getElem?_toList, hl]; rfl
              refine ⟨f :: fs, PySem.W.KatTups.cons g1 c1 d1 g0 q1, by simp [q2], fun z hz => ?_⟩
              rcases List.mem_cons.mp hz with rfl | hz
              · exact ⟨y, ys, hmem, rf⟩
              · exact q3 z hz
    obtain ⟨fs, q1, q2, q3⟩ := firsts vs ds hv' fun e h => h
    -- the kind of the firsts
    have go : ∀ (T : Value) (b : Bool), (T != Value.type "tuple") = b → (T == T) = true → (∀ f ∈ fs, PySem.W.Looks (model prog w) h' (typeOf f) T) → (b = true → ∀ d ∈ ds, ∀ y ys, d = .tup (y :: ys) → ∃ k, y = .int k) →
        ∃ κ, (∀ (Q : SortKind → Shared → Prop) (E : Value → Shared → Prop), Q κ { s with heap := h' } → wpAny (model prog w) A (keyKind' vs.toArray) Q E { s with heap := h' }) ∧ Cmp prog w A { s with heap := h' } κ (fun p => p.1 ∈ vs) (lt2 fun v u => lexI (kOf s.heap v) (kOf s.heap u)) := by
      intro T b hb hT hl hbi
      refine ⟨tuples' b, fun Q E hq => PySem.W.kat_kind (T := T) q1 (by omega) hl hT (by rw [hb]; exact hq), ?_⟩
      intro p q hm hm'
      obtain ⟨d, hd, rd⟩ := hv.mem hm
      obtain ⟨e, he, re⟩ := hv.mem hm'
      have k1 := kOf_eq rd
      have k2 := kOf_eq re
      show wpAny (model prog w) A (keyLt' (tuples' b) p.1 q.1) (fun r s' => s' = { s with heap := h' } ∧ r = lexI (kOf s.heap p.1) (kOf s.heap q.1)) (fun _ _ => False) { s with heap := h' }
      have sm : sameD d e = true := (fit d hd).2.2 e he
      rw [k1, k2, ← flat_lt d e sm]
      obtain ⟨y, ys, rfl⟩ := tups d hd
      obtain ⟨y', ys', rfl⟩ := tups e he
      have rd := rd.keeps kk
      have re := re.keeps kk
      generalize p.1 = pv at rd
      generalize q.1 = qv at re
      cases rd with
      | @tup a1 o1 u1 n1 _ g1 c1 d1 r1 => cases re with
        | @tup a2 o2 u2 n2 _ g2 c2 d2 r2 =>
          have ssm : sameDs (y :: ys) (y' :: ys') = true := by simpa [sameD] using sm
          refine PySem.W.kat_lt (s := { s with heap := h' }) g1 d1 g2 d2 ?_
          refine kat_items (s := { s with heap := h' }) (A := A) u1.toList u2.toList (y :: ys) (y' :: ys') 0 _ r1 r2 ssm (fun j h => cmpOk_item (fit _ hd).1 h) (fun j h => cmpOk_item (fit _ he).1 h) hu (fun h1 _ x hx => ?_) (fun _ hlen => ?_) ?_
          · simp only [List.head?_cons, Option.mem_some_iff] at hx
            subst hx
            exact hbi h1 _ hd _ _ rfl
          · simp only [Array.length_toList] at hlen
            rw [hlen]
            exact decide_eq_false (Nat.lt_irrefl _)
          · simp [ltD]
    -- ints or tuples first
    have f0' := (fit d0 (by rw [e0]; exact List.mem_cons_self))
    by_cases hi : ∃ i, y0 = .int i
    · have all : ∀ d ∈ ds, ∀ y ys, d = .tup (y :: ys) → ∃ k, y = .int k := fun d hd y ys ed => by
        have sm := f0.2.2 d hd
        rw [et, ed] at sm
        simp only [sameD, sameDs, Bool.and_eq_true] at sm
        obtain ⟨i, rfl⟩ := hi
        rcases same_cases sm.1 with ⟨_, j, _, rfl⟩ | ⟨_, _, z, _⟩
        · exact ⟨j, rfl⟩
        · cases z
      refine go (.type "int") true (by rfl) (by rfl) (fun f hf => ?_) (fun _ => all)
      obtain ⟨y, ys, hm, rf⟩ := q3 f hf
      obtain ⟨k, rfl⟩ := all _ hm y ys rfl
      cases rf with
      | int _ t => exact PySem.W.Looks.now
    · have all : ∀ d ∈ ds, ∀ y ys, d = .tup (y :: ys) → ∃ zs, y = .tup zs := fun d hd y ys ed => by
        have sm := f0.2.2 d hd
        rw [et, ed] at sm
        simp only [sameD, sameDs, Bool.and_eq_true] at sm
        rcases same_cases sm.1 with ⟨i, j, z, _⟩ | ⟨_, zs, _, rfl, _⟩
        · exact absurd ⟨i, z⟩ hi
        · exact ⟨zs, rfl⟩
      refine go (.type "tuple") false (by decide) (by decide) (fun f hf => ?_) (fun z => Bool.noConfusion z)
      obtain ⟨y, ys, hm, rf⟩ := q3 f hf
      obtain ⟨zs, rfl⟩ := all _ hm y ys rfl
      cases rf with
      | @tup a' o us' n _ g1 c1 d1 rr1 =>
        have := show PySem.W.Looks (model prog w) h' (typeOf (.ref a')) o.cls from (PySem.W.Looks.ld g1).andThen .now
        rw [c1] at this
        exact this
end
end Dx

set_option Elab.async false
set_option linter.all false
set_option maxRecDepth 100000
set_option maxHeartbeats 4000000
/-! DX: sorted, as a call. -/
namespace Dx
open PySem PySem.Spec PyProof.Rows L2
theorem VDs.perm {h : Heap} {vs out : List Value} (p : out.Perm vs) : ∀ {ds : List D}, VDs h vs ds → ∃ es, VDs h out es ∧ es.Perm ds := by
  have key : ∀ {a b : List Value}, a.Perm b → ∀ {ds : List D}, VDs h a ds → ∃ es, VDs h b es ∧ es.Perm ds := by
    intro a b p
    induction p with
    | nil => intro ds r; cases r; exact ⟨[], .nil, List.Perm.refl _⟩
    | cons x p ih =>
      intro ds r
      cases r with
      | @cons _ _ d ds q r =>
        obtain ⟨es, r1, p1⟩ := ih r
        exact ⟨d :: es, .cons q r1, p1.cons d⟩
    | swap x y l =>
      intro ds r
      cases r with
      | @cons _ _ d ds q r =>
        cases r with
        | @cons _ _ e ds q2 r => exact ⟨e :: d :: ds, .cons q2 (.cons q r), List.Perm.swap d e ds⟩
    | trans p1 p2 ih1 ih2 =>
      intro ds r
      obtain ⟨es, r1, q1⟩ := ih1 r
      obtain ⟨fs, r2, q2⟩ := ih2 r1
      exact ⟨fs, r2, q2.trans q1⟩
  intro ds r
  exact key p.symm r
theorem VDs.memD {h : Heap} {e : D} : ∀ {vs : List Value} {ds : List D}, VDs h vs ds → e ∈ ds → ∃ v ∈ vs, VD h v e
  | _, _, .nil, hm => absurd hm (by simp)
  | _, _, .cons a r, hm => by
    rcases List.mem_cons.mp hm with rfl | hm
    · exact ⟨_, List.mem_cons_self, a⟩
    · obtain ⟨d, h1, h2⟩ := VDs.memD r hm
      exact ⟨d, List.mem_cons_of_mem _ h1, h2⟩
theorem VDs.pw {h : Heap} : ∀ {out : List Value} {es : List D}, VDs h out es → (∀ x ∈ es, ∀ y ∈ es, sameD x y = true) → out.Pairwise (fun x y => lexI (kOf h y) (kOf h x) = false) → es.Pairwise (fun x y => ltD y x = false)
  | _, _, .nil, _, _ => List.Pairwise.nil
  | _, _, @VDs.cons _ v vs d ds a r, hs, hp => by
    obtain ⟨h1, h2⟩ := List.pairwise_cons.mp hp
    refine List.pairwise_cons.mpr ⟨fun e he => ?_, VDs.pw r (fun x hx y hy => hs x (List.mem_cons_of_mem _ hx) y (List.mem_cons_of_mem _ hy)) h2⟩
    obtain ⟨u, hu, ru⟩ := r.memD he
    have := h1 u hu
    rw [kOf_eq ru, kOf_eq a, ← flat_lt e d (hs e (List.mem_cons_of_mem _ he) d List.mem_cons_self)] at this
    exact this
section
variable {prog : Program} {w : World} {A : Around} {E : Value → Shared → Prop} {s : Shared}
theorem sorted_src {l : Addr} {vs : List Value} {ds : List D} {Q : Value → Shared → Prop}
    (hC : ∀ (E' : Value → Shared → Prop) (Q' : List Value → Shared → Prop), (∀ (h₁ : Heap) (tk : Nat), (∀ b o, s.heap.get? b = some o → h₁.get? b = some o) → s.heap.objs.size ≤ h₁.objs.size → Q' vs { s with heap := h₁, toks := tk }) → wpAny (model prog w) A.in1 (collect (.ref l)) Q' E' s)
    (hz : vs.length ≤ sizeLine) (hv : VDs s.heap vs ds) (hf : fitS ds = true) (hu : A.units + 150 < cLine)
    (h : ∀ (h' : Heap) (d : Addr) (out : List Value) (es : List D) (tk : Nat), VDs h' out es → es.Perm ds → out.Perm vs → es.Pairwise (fun x y => ltD y x = false) → (∀ b o, s.heap.get? b = some o → h'.get? b = some o) → s.heap.objs.size ≤ d → (∃ n, h'.get? d = some (seqObj "list" out.toArray n)) → Q (.ref d) { s with heap := h', toks := tk }) :
    wpAny (model prog w) A (call (.builtin "sorted") [.ref l]) Q E s := by
  refine Calls.call_function_entry kind_sorted plain_sorted entry_sorted (args_sorted1 _) ?_
  unfold Builtin.«sorted»
  refine wpAny_bind (m := checkCount "sorted" 1 1 _) (wpAny_pure ?_)
  refine wpAny_bind (hC _ _ fun h₁ tk k1 hsz => ?_)
  refine wpAny_bind (wpAny_newList ?_ hz)
  have hoL : (h₁.push (seqObj "list" vs.toArray 0)).get? h₁.objs.size = some (seqObj "list" vs.toArray 0) := Heap.get?_push_size _ rfl
  have k2 : ∀ b o, s.heap.get? b = some o → b ≠ h₁.objs.size ∧ (h₁.push (seqObj "list" vs.toArray 0)).get? b = some o := fun b o q => ⟨Nat.ne_of_lt (Heap.lt_size (k1 b o q)), Heap.get?_push_of_some _ (k1 b o q)⟩
  have hv2 : VDs (h₁.push (seqObj "list" vs.toArray 0)) vs ds := hv.keeps fun b o e _ => (k2 b o e).2
  show wpAny _ _ _ _ _ { s with heap := h₁.push (seqObj "list" vs.toArray 0), toks := tk }
  have hun : A.in1.units = A.units + 1 := Around.in1_units A
  have hun2 : A.in1.in1.units = A.units + 2 := by rw [Around.in1_units A.in1, hun]
  have O : SrtO.Swo fun v u => lexI (kOf (h₁.push (seqObj "list" vs.toArray 0)) v) (kOf (h₁.push (seqObj "list" vs.toArray 0)) u) := ⟨fun x y => lexI_asym _ _, fun x y z => lexI_tr _ _ _⟩
  refine wpAny_bind (wpAny_holding (wpAny_call_entry slot_list_sort ⟨_, hoL, rfl⟩ entry_list_sort (SrtO.list_sort_ord O hoL hz (fun h2 => vd_sortable (s := { s with heap := h₁.push (seqObj "list" vs.toArray 0), toks := tk }) hv2 hf h2 (by omega) fun o e => ?_) fun out hs hb => ⟨_, rfl, ?_⟩) (args_list_sort _)))
  · have e' : some o = some (seqObj "list" vs.toArray 0) := e.symm.trans hoL
    cases e'
    intro c
    exact absurd (Value.type.inj c) (by decide)
  · obtain ⟨es, r1, p1⟩ := VDs.perm hb.perm hv2
    have k3 : ∀ b o, s.heap.get? b = some o → (sortedHeap (h₁.push (seqObj "list" vs.toArray 0)) h₁.objs.size vs out.toArray).get? b = some o := fun b o e => by
      rw [sortedHeap_old (k2 b o e).1 (Heap.lt_size (k2 b o e).2)]
      exact (k2 b o e).2
    have k4 : ∀ b o, (h₁.push (seqObj "list" vs.toArray 0)).get? b = some o → o.cls = .type "tuple" → (sortedHeap (h₁.push (seqObj "list" vs.toArray 0)) h₁.objs.size vs out.toArray).get? b = some o := fun b o e c => by
      have hb : b ≠ h₁.objs.size := fun z => by
        subst z
        have e' : some o = some (seqObj "list" vs.toArray 0) := e.symm.trans hoL
        cases e'
        exact absurd (Value.type.inj c) (by decide)
      rw [sortedHeap_old hb (Heap.lt_size e)]
      exact e
    have sm : ∀ x ∈ es, ∀ y ∈ es, sameD x y = true := fun x hx y hy => by
      unfold fitS at hf
      rw [List.all_eq_true] at hf
      have := hf x (p1.mem_iff.mp hx)
      simp only [Bool.and_eq_true, List.all_eq_true] at this
      exact this.2 y (p1.mem_iff.mp hy)
    obtain ⟨n, hn⟩ := sortedHeap_at (n := 0) (vs := vs) (out := out.toArray) hoL
    exact wpAny_pure ⟨_, rfl, h _ _ out es tk (r1.keeps k4) p1 hb.perm (r1.pw sm hs) k3 hsz ⟨n, hn⟩⟩
theorem collect_dict {d : Addr} {o : Obj} {es : Array DictEntry} {ep : Nat} (lo : (d == sysModules) = false) (hx : o.ExactDict) (hd : o.data = .dict es ep) (hh : A.handled = none) (ho : s.heap.get? d = some o) (hn : es.size ≤ sizeLine) (Q : List Value → Shared → Prop)
    (hQ : ∀ (h₁ : Heap) (tk : Nat), (∀ b o, s.heap.get? b = some o → h₁.get? b = some o) → s.heap.objs.size ≤ h₁.objs.size → Q (es.toList.map (·.key)) { s with heap := h₁, toks := tk }) : wpAny (model prog w) A (collect (.ref d)) Q E s := by
  have hlt := Heap.lt_size ho
  unfold collect
  refine wpAny_bind (wpAny_runValue (codeAny_builtin F.entry_proto_collect ?_))
  rw [Around.under_plainId F.plain_proto_collect _]
  show wpAny _ A.in1 (newList [] >>= fun l => again (.builtin "list.__iadd__" ⟨[l, .ref d], []⟩)) _ _ s
  refine wpAny_bind (wpAny_newObj_type ?_)
  refine wpAny_pure ⟨plainId_quiet F.plain_list_iadd _, codeAny_builtin F.entry_list_iadd ?_⟩
  rw [Around.under_plainId F.plain_list_iadd _]
  show wpAny _ A.in1 (Builtin.List.listExtendWith (.ref s.heap.objs.size) (.ref d) (.ref s.heap.objs.size)) _ _ _
  have hS : (s.heap.push { cls := .type "list", data := .seq ([] : List Value).toArray }).get? s.heap.objs.size = some { cls := .type "list", data := .seq #[] 0 } := Heap.get?_push_size _ rfl
  have hSd : s.heap.objs.size ≠ d := Nat.ne_of_gt hlt
  refine wpAny_mono (PySem.W.kdl_extend (A := A) (R := fun rr s' => rr = .ok (.ret (.ref s.heap.objs.size)) ∧ ∃ (h' : Heap) (tk : Nat) (acc : Array Value) (c' : Nat), s' = { s with heap := h', toks := tk } ∧
      (∀ b o, s.heap.get? b = some o → h'.get? b = some o) ∧ h'.get? s.heap.objs.size = some { cls := .type "list", dict := none, data := .seq acc c', slots := #[] } ∧ ItemsOf (fun i v => ∃ en : DictEntry, es[i]? = some en ∧ v = en.key) acc es.size)
    (s := { s with heap := s.heap.push { cls := .type "list", data := .seq ([] : List Value).toArray } }) (kdl_raw lo hx hd) hh (Heap.get?_push_of_some _ ho) s.heap.objs.size hSd hSd _ 0 hS
    (fun h' tk acc c' hk e hi => ⟨rfl, h', tk, acc, c', rfl, fun b o q => hk b o (Nat.ne_of_lt (Heap.lt_size q)) (Heap.get?_push_of_some _ q), e, hi⟩) hn) (fun f0 s' h => ?_) (fun e s' h => ?_)
  · have fin : ∀ (h' : Heap) (tk : Nat) (acc : Array Value) (c' : Nat), (∀ b o, s.heap.get? b = some o → h'.get? b = some o) → h'.get? s.heap.objs.size = some { cls := .type "list", dict := none, data := .seq acc c', slots := #[] } → ItemsOf (fun i v => ∃ en : DictEntry, es[i]? = some en ∧ v = en.key) acc es.size → Q acc.toList { s with heap := h', toks := tk } := by
      intro h' tk acc c' hk hS' hi
      have ea : acc.toList = es.toList.map (·.key) := by
        have hl : acc.toList.length = es.size := by rw [Array.length_toList, hi.1]
        apply List.ext_getElem?
        intro j
        have he : es.toList[j]? = es[j]? := Array.getElem?_toList ..
        rw [List.getElem?_map, he]
        cases hj : acc.toList[j]? with
        | none =>
          have h1 := List.getElem?_eq_none_iff.mp hj
          rw [Array.getElem?_eq_none (by omega)]
          rfl
        | some v =>
          obtain ⟨en, hen, hv⟩ := hi.2 j v (by rw [← Array.getElem?_toList]; exact hj)
          rw [hen, hv]
          rfl
      rw [ea]
      exact hQ h' tk hk (Nat.le_of_lt (Heap.lt_size hS'))
    cases f0 with
    | done f =>
      obtain ⟨e, h', tk, acc, c', rfl, hk, hS', hi⟩ := h
      cases e
      show wpAny _ A (load s.heap.objs.size >>= _) _ _ _
      exact wpAny_bind (wpAny_load hS' (wpAny_pure (fin h' tk acc c' hk hS' hi)))
    | again c' =>
      refine ⟨h.1, codeAny_mono h.2 fun rr s'' hr' => ?_⟩
      obtain ⟨rfl, h', tk, acc, c', rfl, hk, hS', hi⟩ := hr'
      show wpAny _ A (load s.heap.objs.size >>= _) _ _ _
      exact wpAny_bind (wpAny_load hS' (wpAny_pure (fin h' tk acc c' hk hS' hi)))
  · exact absurd h.1 (by simp)
end
/-! ### as a call -/
section
variable {G : Gr} {X : Cx} {pins : List (Addr × Obj)} {σ : L2.St} {H : Hp} {s : Shared} {m : Mp}
mutual
theorem toVD (I : Inv X pins σ H s) (hK : X.K = G.K) : ∀ (d : D) (v : V) (u : Value), sameD d d = true → Rep G m H v d → RelV v u → VD s.heap u d
  | .int i, v, u, _, r, q => by
    cases r
    obtain ⟨t, rfl⟩ := q
    exact .int i t
  | .tup ds, v, u, h, r, q => by
    obtain ⟨a, xs, rfl, t1, ra⟩ := r.getT rfl
    cases q
    obtain ⟨its, rv, ⟨o, h1, h2, n, h3⟩, _⟩ := I.tuple (hK ▸ t1)
    exact .tup h1 h2 h3 (by simpa using toVDs I hK ds xs its (by simpa [sameD] using h) ra rv)
  | .non, _, _, h, _, _ => by simp [sameD] at h
  | .bl _, _, _, h, _, _ => by simp [sameD] at h
  | .str _, _, _, h, _, _ => by simp [sameD] at h
  | .lst _, _, _, h, _, _ => by simp [sameD] at h
  | .obj _, _, _, h, _, _ => by simp [sameD] at h
  | .ty _, _, _, h, _, _ => by simp [sameD] at h
  | .gl _, _, _, h, _, _ => by simp [sameD] at h
  | .exv _, _, _, h, _, _ => by simp [sameD] at h
theorem toVDs (I : Inv X pins σ H s) (hK : X.K = G.K) : ∀ (ds : List D) (vs : List V) (us : List Value), sameDs ds ds = true → RepAll G m H vs ds → Vals vs us → VDs s.heap us ds
  | [], _, _, _, r, q => by cases r; cases q; exact .nil
  | d :: ds, _, _, h, r, q => by
    simp only [sameDs, Bool.and_eq_true] at h
    cases r with
    | cons a r => cases q with
      | cons b q => exact .cons (toVD I hK d _ _ h.1 a b) (toVDs I hK ds _ _ h.2 r q)
end
theorem toVDl (I : Inv X pins σ H s) (hK : X.K = G.K) : ∀ {ds : List D} {vs : List V} {us : List Value}, (∀ d ∈ ds, sameD d d = true) → RepAll G m H vs ds → Vals vs us → VDs s.heap us ds
  | [], _, _, _, r, q => by cases r; cases q; exact .nil
  | d :: ds, _, _, h, r, q => by
    cases r with
    | cons a r => cases q with
      | cons b q => exact .cons (toVD I hK d _ _ (h d List.mem_cons_self) a b) (toVDl I hK (fun e he => h e (List.mem_cons_of_mem _ he)) r q)
theorem trip {h : Heap} : ∀ {ds : List D} {vs : List V} {us : List Value} {u : Value}, RepAll G m H vs ds → Vals vs us → VDs h us ds → u ∈ us → ∃ x d, RelV x u ∧ Rep G m H x d ∧ VD h u d
  | _, _, _, u, .nil, .nil, _, hm => absurd hm (by simp)
  | _, _, _, u, .cons a r, .cons b q, .cons c t, hm => by
    rcases List.mem_cons.mp hm with rfl | hm
    · exact ⟨_, _, b, a, c⟩
    · exact trip r q t hm
theorem backAll {h : Heap} : ∀ {out : List Value} {es : List D}, VDs h out es → (∀ u ∈ out, ∃ x d, RelV x u ∧ Rep G m H x d ∧ VD h u d) → ∃ xs, Vals xs out ∧ RepAll G m H xs es
  | _, _, .nil, _ => ⟨[], .nil, .nil⟩
  | _, _, .cons a r, hk => by
    obtain ⟨x, d, q1, q2, q3⟩ := hk _ List.mem_cons_self
    obtain ⟨xs, r1, r2⟩ := backAll r fun u hu => hk u (List.mem_cons_of_mem _ hu)
    rw [q3.inj a] at q2
    exact ⟨x :: xs, .cons q1 r1, .cons q2 r2⟩
/-- what is sorted: a list of the heap, or a dict's keys -/
def rSortD (G : Gr) (K : PySem.W.Frag) : List V → Hp → VK → Prop := fun vs H Q => ∃ (m : Mp) (a : Addr) (ds : List D), vs = [.ref a] ∧ fitS ds = true ∧
  ((∃ xs, SqL K H a xs ∧ RepAll G m H xs ds) ∨ ∃ ws, H a = some (.dT ws) ∧ ds = ws.map fun p => keyT p.1) ∧
  ∀ (es : List D) (p : Addr) (xs : List V), es.Perm ds → es.Pairwise (fun x y => ltD y x = false) → H p = none → RepAll G m H xs es → Q (.ref p) (upd H p (.lst xs))
theorem fitS_all {ds : List D} (h : fitS ds = true) : ∀ d ∈ ds, sameD d d = true := fun d hd => by
  unfold fitS at h
  rw [List.all_eq_true] at h
  have := h d hd
  simp only [Bool.and_eq_true, List.all_eq_true] at this
  exact this.2 d hd
theorem rep_keys {ws : List (List Key × V)} {bs : List Addr} (h : IsKeys H ws bs) : RepAll G m H (bs.map V.ref) (ws.map fun p => keyT p.1) := by
  unfold IsKeys at h
  induction h with
  | nil => exact .nil
  | @cons p b ps bs e t ih =>
    refine .cons ?_ ih
    refine .tup (.inl (.inl e)) ?_
    generalize p.1 = k
    induction k with
    | nil => exact .nil
    | cons a k ihk =>
      refine .cons ?_ ihk
      cases a with
      | inl i => exact .int i
      | inr z => exact .str z
theorem cr_sortD (hK : X.K = G.K) (hc : X.calm = true) (hu : X.A.units + 150 < cLine) : CallR X (.builtin "sorted") (rSortD G X.K) := by
  intro pins s σ H vs us Q I r h
  obtain ⟨m, a, ds, rfl, hf, src, q⟩ := h
  obtain ⟨u, rfl, ru⟩ := vals1 r
  obtain rfl : u = Value.ref a := ru
  have fin : ∀ (xs : List V) (its : List Value), Vals xs its → RepAll G m H xs ds → its.length ≤ sizeLine →
      (∀ (E' : Value → Shared → Prop) (Q' : List Value → Shared → Prop), (∀ (h₁ : Heap) (tk : Nat), (∀ b o, s.heap.get? b = some o → h₁.get? b = some o) → s.heap.objs.size ≤ h₁.objs.size → Q' its { s with heap := h₁, toks := tk }) → wpAny (model X.prog X.w) X.A.in1 (collect (.ref a)) Q' E' s) →
      wpAny (model X.prog X.w) X.A (call (.builtin "sorted") [.ref a]) (EP X pins σ Q) X.xe s := by
    intro xs its rv ra hz hC
    have hv : VDs s.heap its ds := toVDl I hK (fitS_all hf) ra rv
    refine sorted_src hC hz hv hf hu fun h' d out es tk r1 p1 p2 pw k hd ⟨n, hn⟩ => ?_
    have hn0 : H d = none := I.hok.fresh hd
    obtain ⟨ys, v1, v2⟩ := backAll (G := G) (m := m) (H := H) r1 fun u hu => by
      obtain ⟨x, d, q1, q2, q3⟩ := trip ra rv hv (p2.mem_iff.mp hu)
      exact ⟨x, d, q1, q2, q3.keeps fun b o e _ => k b o e⟩
    refine ⟨.ref d, upd H d (.lst ys), I.laid (t' := tk) k hd ⟨?_, out, n, v1, hn⟩, rfl, q es d ys p1 pw hn0 v2⟩
    rw [v1.length, p2.length_eq]
    exact hz
  rcases src with ⟨xs, hl, ra⟩ | ⟨ws, ha, rfl⟩
  · obtain ⟨its, rv, pl, hz⟩ := I.list hl
    refine fin xs its rv ra (by rw [← rv.length]; exact hz) fun E' Q' hQ => ?_
    refine collect_list pl.isList (hQ _ s.toks (fun b o e => ?_) ?_) (by rw [← rv.length]; exact hz)
    · rw [Heap.get?_update_ne _ _ _ _ (Nat.ne_of_lt (Heap.lt_size e))]
      exact Heap.get?_push_of_some _ e
    · rw [Heap.size_update, size_push']
      exact Nat.le_succ _
  · obtain ⟨z, hs, ks, pr, o, es, ep, ho, hx, hdt, he, hn⟩ := (show ObjOk X.prog X.w H s.heap a (.dT ws) from I.hok a _ ha)
    have l1 : es.size = ks.length := size_of_entries he
    have l2 : ws.length = ks.length := Paired.length pr
    have ea : es.toList.map (·.key) = (ks.map fun x => x.2.1).map Value.ref := by
      apply List.ext_getElem?
      intro j
      rw [List.map_map, List.getElem?_map, List.getElem?_map]
      have qe := entry_at he j
      have hes : es.toList[j]? = es[j]? := Array.getElem?_toList ..
      rw [hes, qe]
      cases ks[j]? with
      | none => rfl
      | some b => rfl
    refine fin ((ks.map fun x => x.2.1).map V.ref) ((ks.map fun x => x.2.1).map Value.ref) (vals_refs _) (rep_keys (isKeys_of pr)) (by rw [List.length_map, List.length_map]; omega) fun E' Q' hQ => ?_
    rw [← ea] at hQ
    exact collect_dict (A := X.A.in1) hs hx hdt (I.ok.hd hc) ho (by omega) Q' hQ
def srcS (S : Store) : D → Option (List D)
  | .obj n => (match S[n]? with
    | some (.lst ds) => some ds
    | some (.dct kvs) => some (kvs.map fun p => keyT p.1)
    | _ => none)
  | .lst ds => some ds
  | _ => none
def sortB (mu : Bool) (ds : List D) : F := fun τ S Q E => match ds with
  | [d] => (match srcS S d with
    | some xs => fitS xs = true ∧ ∀ es : List D, es.Perm xs → es.Pairwise (fun x y => ltD y x = false) → newL mu es τ S Q E
    | none => False)
  | _ => False
theorem bf_sort (hK : X.K = G.K) (hc : X.calm = true) (hu : X.A.units + 150 < cLine) (mu : Bool) : BF G X (.builtin "sorted") (sortB mu) := by
  refine ⟨_, cr_sortD hK hc hu, fun W τ m S σ H Q vs ds r hA => ?_⟩
  obtain ⟨QD, QE, sr, er, hf, k, px⟩ := hA
  unfold sortB at hf
  split at hf
  · rename_i d
    split at hf
    · rename_i xs hx
      obtain ⟨hfit, hf⟩ := hf
      cases r with
      | cons a r =>
        cases r
        have back : ∀ (es : List D) (p : Addr) (ys : List V), es.Perm xs → es.Pairwise (fun x y => ltD y x = false) → H p = none → RepAll G m H ys es → Q (.ref p) (upd H p (.lst ys)) := fun es p ys p1 p2 hp ry =>
          At.newL (W := W) (mu := mu) ⟨QD, QE, sr, er, hf es p1 p2, k, px⟩ hp ry
        unfold srcS at hx
        split at hx
        · rename_i n
          split at hx
          · rename_i es hs
            cases hx
            obtain ⟨b, zs, rfl, h1, h2, rz⟩ := live_of sr a hs
            exact ⟨m, b, _, rfl, hfit, .inl ⟨zs, .inl (.inl h2), rz⟩, back⟩
          · rename_i kvs hs
            cases hx
            obtain ⟨b, ws, rfl, h1, h2, rz⟩ := dct_of sr a hs
            refine ⟨m, b, _, rfl, hfit, .inr ⟨ws, h2, ?_⟩, back⟩
            have := rz.keys
            have e1 : (kvs.map fun p => keyT p.1) = (kvs.map (·.1)).map keyT := by rw [List.map_map]; rfl
            have e2 : (ws.map fun p => keyT p.1) = (ws.map (·.1)).map keyT := by rw [List.map_map]; rfl
            rw [e1, e2, this]
          · cases hx
        · cases hx
          obtain ⟨b, zs, rfl, t1, ra⟩ := a.getL sr rfl
          exact ⟨m, b, _, rfl, hfit, .inl ⟨zs, hK ▸ t1.sq, ra⟩, back⟩
        · cases hx
    · exact hf.elim
  · exact hf.elim
end
end Dx

set_option Elab.async false
set_option linter.all false
set_option maxRecDepth 100000
set_option maxHeartbeats 4000000
/-! DX: sorted(set(e)), e a list of pairs of ints from 0 to 63. -/
namespace Dx
open PySem PySem.Spec PyProof.Rows L2
def pairD (x y : Int) : D := .tup [.int x, .int y]
def pairsOk (ds : List D) : Prop := ds.length < 64 ∧ ∀ d ∈ ds, ∃ x y : Int, d = pairD x y ∧ (0 ≤ x ∧ x < 64) ∧ 0 ≤ y ∧ y < 64
def ssetF (d : D) : F := fun _ S Q _ => match getS S d with
  | .lst ds => pairsOk ds ∧ ∀ es : List D, (∀ x, x ∈ es ↔ x ∈ ds) → es.Pairwise (fun x y => ltD x y = true) → Q (.lst es) S
  | _ => False
section
variable {G : Gr} {m : Mp} {H : Hp}
theorem pairs_rep (K : PySem.W.Frag) (hK : K = G.K) : ∀ {ds : List D} {xs : List V}, RepAll G m H xs ds → (∀ d ∈ ds, ∃ x y : Int, d = pairD x y ∧ (0 ≤ x ∧ x < 64) ∧ 0 ≤ y ∧ y < 64) →
    ∃ ks : List (Addr × List Int), xs = ks.map (fun p => V.ref p.1) ∧ (∀ p ∈ ks, SqT K H p.1 (p.2.map V.int)) ∧ ks.map (fun p => D.tup (p.2.map .int)) = ds
  | [], _, .nil, _ => ⟨[], rfl, fun p h => absurd h (by simp), rfl⟩
  | d :: ds, _, .cons a r, h => by
    obtain ⟨x, y, e, _⟩ := h d List.mem_cons_self
    obtain ⟨ks, h1, h2, h3⟩ := pairs_rep K hK r fun e he => h e (List.mem_cons_of_mem _ he)
    subst e
    obtain ⟨t, vs, rfl, t1, ra⟩ := a.getT rfl
    have ev : vs = [V.int x, V.int y] := by
      cases ra with
      | cons a1 r1 => cases r1 with
        | cons a2 r2 => cases r2; cases a1; cases a2; rfl
    subst ev
    refine ⟨(t, [x, y]) :: ks, by simp [h1], fun p hp => ?_, by simp [h3, pairD]⟩
    rcases List.mem_cons.mp hp with rfl | hp
    · exact hK ▸ t1
    · exact h2 p hp
theorem keys_rep (K : PySem.W.Frag) (hK : K = G.K) : ∀ {ks : List (Addr × List Int)}, (∀ p ∈ ks, SqT K H p.1 (p.2.map V.int)) → RepAll G m H (ks.map fun p => V.ref p.1) (ks.map fun p => D.tup (p.2.map .int))
  | [], _ => .nil
  | p :: ks, h => by
    refine .cons (.tup (hK ▸ h p List.mem_cons_self) ?_) (keys_rep K hK fun q hq => h q (List.mem_cons_of_mem _ hq))
    generalize p.2 = l
    induction l with
    | nil => exact .nil
    | cons i l ih => exact .cons (.int i) ih
theorem pair_ltD {x y x' y' : Int} (h : x < x' ∨ (x = x' ∧ y < y')) : ltD (pairD x y) (pairD x' y') = true := by
  simp only [pairD, ltD, ltDs, eqD]
  rcases h with h | ⟨rfl, h⟩
  · have : (x == x') = false := by simp; omega
    simp [this, h]
  · have : (y == y') = false := by simp; omega
    simp [this, h]
variable {X : Cx} {W : WX} {e : Expr} {fe : F} {p p2 q pos : Pos}
theorem e_sortSet (hK : X.K = G.K) (hc : X.calm = true) (hu : X.A.units + 64 < cLine) (hg : Gl X "sorted") (hm : X.mg "sorted" = none) (hg2 : Gl X "set") (hm2 : X.mg "set" = none) (he : PE X e (tE G W fe))
    (hs : starEach [e] X.env = [(false, eval e X.env)]) (hs2 : starEach [.Call (.Name "set" p2) [e] [] q] X.env = [(false, eval (.Call (.Name "set" p2) [e] [] q) X.env)]) :
    PE X (.Call (.Name "sorted" p) [.Call (.Name "set" p2) [e] [] q] [] pos) (tE G W (bindF fe ssetF)) := by
  have h1 := pe_callTy (p := p2) (pos := q) (cr_setOfT hc hu) hg2 hm2 (by kernel_rfl) (pa_cons he pa_nil (by rw [hs]; rfl)) (by decide) (by decide) (by rw [hs]; rfl) (by rfl)
  have h2 := pe_callB (p := p) (pos := pos) (cr_sortedT hc) hg hm (by kernel_rfl) (pa_cons h1 pa_nil (by rw [hs2]; rfl)) (by decide) (by decide) (by rw [hs2]; rfl) (by rfl)
  refine PE.imp h2 fun σ H Q ⟨τ, m, S, h⟩ => ⟨τ, m, S, h.seq fun m1 S1 H1 v d e1 sr1 r1 h1 => ?_⟩
  obtain ⟨QD, QE, sr, er, hf, k, px⟩ := h1
  unfold ssetF at hf
  split at hf
  · rename_i ds hd
    obtain ⟨⟨hlen, hp⟩, hf⟩ := hf
    obtain ⟨a, xs, rfl, t1, ra⟩ := r1.getL sr hd
    obtain ⟨ks, rfl, hks, hds⟩ := pairs_rep (G := G) X.K hK ra hp
    have bd : ∀ p ∈ ks, ∃ x y : Int, p.2 = [x, y] ∧ (0 ≤ x ∧ x < 64) ∧ 0 ≤ y ∧ y < 64 := fun p hpm => by
      have hm : D.tup (p.2.map .int) ∈ ds := by rw [← hds]; exact List.mem_map.mpr ⟨p, hpm, rfl⟩
      obtain ⟨x, y, e, b⟩ := hp _ hm
      refine ⟨x, y, ?_, b⟩
      unfold pairD at e
      injection e with e
      match h : p.2, e with
      | [u, v], e => simp at e; rw [e.1, e.2]
    refine ⟨a, ks, rfl, hK ▸ t1.sq, hks, by rw [← hds, List.length_map] at hlen; exact hlen, fun b L hb hL1 hL2 => ?_⟩
    have e2 : Ext m1 H1 m1 (upd H1 b (SetTO X.prog X.w b L)) := Ext.upd sr hb
    have sr2 := sr.upd (o := SetTO X.prog X.w b L) hb
    have hks2 : ∀ p ∈ ks, SqT X.K (upd H1 b (SetTO X.prog X.w b L)) p.1 (p.2.map V.int) := fun p hpm => by
      rcases hks p hpm with z | z
      · exact .inl (e2.rd z (sr.notTup z) (fun ps z => by cases z))
      · exact .inr z
    refine ⟨b, L, 2, 64, rfl, upd_same, fun p hpm => hks2 p (hL1 p hpm), by decide, fun p hpm => ?_, fun L' c pm nd _ pw hc' => ?_⟩
    · obtain ⟨x, y, e, b1, b2⟩ := bd p (hL1 p hpm)
      rw [e]
      refine ⟨rfl, fun i hi => ?_⟩
      simp only [List.mem_cons, List.not_mem_nil, or_false] at hi
      rcases hi with rfl | rfl
      · exact b1
      · exact b2
    · have hL' : ∀ p ∈ L', p ∈ ks := fun p hpm => hL1 p (pm.mem_iff.mp hpm)
      refine At.newL (W := W) (mu := false) ⟨QD, QE, sr2, er.mono sr e2, ?_, k.mono e2, px.mono e2⟩ hc' (keys_rep (G := G) X.K hK fun p hpm => hks2 p (hL' p hpm))
      unfold Dx.newL
      rw [if_neg Bool.false_ne_true]
      refine hf _ (fun x => ⟨fun hx => ?_, fun hx => ?_⟩) ?_
      · obtain ⟨p, hpm, rfl⟩ := List.mem_map.mp hx
        rw [← hds]
        exact List.mem_map.mpr ⟨p, hL' p hpm, rfl⟩
      · rw [← hds] at hx
        obtain ⟨p, hpm, rfl⟩ := List.mem_map.mp hx
        obtain ⟨p', hp', e'⟩ := List.mem_map.mp (hL2 p hpm)
        exact List.mem_map.mpr ⟨p', pm.mem_iff.mpr hp', by rw [e']⟩
      · rw [List.pairwise_map]
        have nd' : L'.Pairwise fun p q => p.2 ≠ q.2 := List.pairwise_map.mp nd
        refine List.Pairwise.imp_of_mem (fun {p q} hp' hq' hpq => ?_) (pw.and nd')
        obtain ⟨x, y, e, b1, b2⟩ := bd p (hL' p hp')
        obtain ⟨x', y', e', b3, b4⟩ := bd q (hL' q hq')
        rw [e, e'] at hpq ⊢
        exact pair_ltD (pair_lt hpq.1 hpq.2 b1 b2 b3 b4)
  · exact hf.elim
end
end Dx

set_option Elab.async false
set_option linter.all false
set_option maxRecDepth 100000
set_option maxHeartbeats 4000000
/-! DX: rules for the generator: zip, < of tuples, dicts, sorted. -/
namespace Dx
open PySem PySem.Spec PyProof.Rows L2
section
variable {G : Gr} {X : Cx} {W : WX} {e o i a b value : Expr} {es elts : List Expr} {pos sp tp p p2 q tpos : Pos} {fe fo fi fv : F} {fl fk : FG (List D)} {x1 kk : Nat} {x : Str}
theorem Room.u150 {k : Nat} {A : Around} (r : Room k A) : A.units + 150 < cLine := by have := r.un; omega
theorem Room.u130 {k : Nat} {A : Around} (r : Room k A) : A.units + 130 < cLine := by have := r.un; omega
theorem Room.u1 {k : Nat} {A : Around} (r : Room k A) : A.units + 1 < cLine := by have := r.un; omega
theorem oltt {k : Nat} (hr : Room k X.A) (hK : X.K = G.K := by rfl) : OpF G X (compareOp .Lt) lttG := opd_ltt (n := 0) hK (Room.u130 hr)
theorem izip (hm : G.mg "zip" = none) (ha : PA X [a, b] (tA G W fl)) (hK : X.K = G.K := by rfl) (hM : X.mg = G.mg := by rfl) (hg : Gl X "zip" := by unfold Gl; kernel_rfl) (hs : starEach [a, b] X.env = (false, eval a X.env) :: starEach [b] X.env := by kernel_rfl) (hpl : (backTo pos (starEach [b] X.env)).any (·.1) = false := by kernel_rfl) :
    PI X (.Tuple elts kk tpos) (.Call (.Name "zip" p) [a, b] [] pos) (tI G W (bindF fl zipI)) := i_zip hK hg (by rw [hM]; exact hm) ha hs hpl
theorem xdnew : PE X (.Dict [] [] pos) (tE G W dnewF) := e_dnew
theorem sdput {k : Nat} (hr : Room k X.A) (hv : PE X value (tE G W fv)) (ho : PE X o (tE G W fo)) (hk : PA X es (tA G W fk)) (hs : swapsWith value (some (.Subscript o (.Tuple es x1 tp) sp)) pos.line X.env = pure false := by kernel_rfl) :
    PS X (.Assign [.Subscript o (.Tuple es x1 tp) sp] value pos) (tS G W (dputS fv fo fk)) := s_dput (Room.u1 hr) hv ho hk hs
def dgetE (fo fi : F) : F := bindF fo fun o => bindF fi fun i => dgetF o i
theorem xdget {k : Nat} (hr : Room k X.A) (ho : PE X o (tE G W fo)) (hi : PE X i (tE G W fi)) (hK : X.K = G.K := by rfl) (hs : NoSl i := by intro ov iv; kernel_rfl) : PE X (.Subscript o i pos) (tE G W (dgetE fo fi)) := e_dget hK (Room.u1 hr) ho hi hs
theorem bsort {k : Nat} (hr : Room k X.A) (mu : Bool) (hK : X.K = G.K := by rfl) (hc : X.calm = true := by rfl) : BF G X (.builtin "sorted") (sortB mu) := bf_sort hK hc (Room.u150 hr) mu
def ssetE (fe : F) : F := bindF fe ssetF
theorem xsset {k : Nat} (hr : Room k X.A) (hm : G.mg "sorted" = none) (hm2 : G.mg "set" = none) (he : PE X e (tE G W fe)) (hK : X.K = G.K := by rfl) (hM : X.mg = G.mg := by rfl) (hc : X.calm = true := by rfl) (hg : Gl X "sorted" := by unfold Gl; kernel_rfl) (hg2 : Gl X "set" := by unfold Gl; kernel_rfl)
    (hs : starEach [e] X.env = [(false, eval e X.env)] := by kernel_rfl) (hs2 : starEach [.Call (.Name "set" p2) [e] [] q] X.env = [(false, eval (.Call (.Name "set" p2) [e] [] q) X.env)] := by kernel_rfl) :
    PE X (.Call (.Name "sorted" p) [.Call (.Name "set" p2) [e] [] q] [] pos) (tE G W (ssetE fe)) := e_sortSet hK hc (Room.u64 hr) hg (by rw [hM]; exact hm) hg2 (by rw [hM]; exact hm2) he hs hs2
theorem spar3 {x y z : Str} {a b c : Expr} {px py pz pt : Pos} {kt k2 pt2} (i j l : Nat) (nd : X.N.Nodup) (ha : PA X [a, b, c] (tA G W fl)) (hc : X.calm = true := by rfl) (hi : X.N[i]? = some x := by kernel_rfl) (hj : X.N[j]? = some y := by kernel_rfl) (hl : X.N[l]? = some z := by kernel_rfl) (hij : i ≠ j := by decide) (hil : i ≠ l := by decide) (hjl : j ≠ l := by decide)
    (hx : X.env.scope.names.lookup x = some .local := by kernel_rfl) (hy : X.env.scope.names.lookup y = some .local := by kernel_rfl) (hz : X.env.scope.names.lookup z = some .local := by kernel_rfl)
    (hw : swappedStores [.Tuple [.Name x px, .Name y py, .Name z pz] kt pt] (.Tuple [a, b, c] k2 pt2) X.env = pure (some [x, y, z]) := by kernel_rfl)
    (hs : swapsWithSole [.Tuple [.Name x px, .Name y py, .Name z pz] kt pt] (.Tuple [a, b, c] k2 pt2) pos.line X.env = pure false := by kernel_rfl) :
    PS X (.Assign [.Tuple [.Name x px, .Name y py, .Name z pz] kt pt] (.Tuple [a, b, c] k2 pt2) pos) (tS G W (par3S i j l fl)) := s_par3 hc nd hi hj hl hij hil hjl hx hy hz ha hw hs
end
end Dx

set_option Elab.async false
set_option linter.all false
set_option maxRecDepth 100000
set_option maxHeartbeats 4000000
/-! DX: defs that want to know that no repr is under way (their callers know it); repr of nested data. -/
namespace Dx
open PySem PySem.Spec PyProof.Rows L2

/-- a def's promise where no repr is under way -/
structure FnG (P : Program) (w : World) (K : PySem.W.Frag) (mg : Str → Option Value) (base : Heap) (CX : CXT) (k : Nat) (f : Addr) (fd : FuncData) (ps : List Str) (sp : Sp) : Prop where
  len : ∀ vs H Q E, sp vs H Q E → vs.length = ps.length
  run : ∀ (A : Around) (outer : List PySem.Env) (s : Shared) (H : Hp) (args : Args) (us : List Value) (vs : List V) (Q : VK) (E : XK), A.guards = some [] → Room k A → Env0 P w K mg base A outer s H → BindsTo s fd args (ps.zip us) → Vals vs us → sp vs H Q E →
    codeAny (model P w) A (.call (.ref f) args) (CR CX outer P w H s Q E) s
theorem FnG.mono {P : Program} {w : World} {K : PySem.W.Frag} {mg : Str → Option Value} {base : Heap} {CX : CXT} {j k : Nat} {f : Addr} {fd : FuncData} {ps : List Str} {sp : Sp} (F : FnG P w K mg base CX j f fd ps sp) (h : j ≤ k) : FnG P w K mg base CX k f fd ps sp :=
  ⟨F.len, fun A o s H g us vs Q E hg hr => F.run A o s H g us vs Q E hg (hr.mono h)⟩
def HasG (P : Program) (w : World) (G : Gr) (base : Heap) (x : Str) (ps : List Str) (k : Nat) (c : Ct) : Prop :=
  ∃ (f : Addr) (fd : FuncData), FnG P w G.K G.mg base (L2.CX P w) k f fd ps (spD G ps.length c) ∧ G.mg x = some (.ref f) ∧ PySem.W.keepIn G.K (.ref f) = true ∧
    (∀ (s : Shared) (us : List Value), us.length = ps.length → BindsTo s fd ⟨us, []⟩ (ps.zip us)) ∧ ∃ (oc : Value) (od : Option Addr) (osl : Array (Option Value)), G.K.lookup f = some ⟨oc, od, .func fd, osl⟩
theorem HasG.mono {P : Program} {w : World} {G : Gr} {base : Heap} {x : Str} {ps : List Str} {j k : Nat} {c : Ct} (h : HasG P w G base x ps j c) (hk : j ≤ k) : HasG P w G base x ps k c := by
  obtain ⟨f, fd, a, r⟩ := h
  exact ⟨f, fd, a.mono hk, r⟩

section
variable {G : Gr} {P : Program} {w : World} {base : Heap} {k n : Nat} {f : Addr} {name qual : Str} {params : Arguments} {body : List Stmt} {scope : Scope} {dV kV doc pm cdv ct oc : Value} {an od : Option Addr}
    {osl : Array (Option Value)} {N ps : List Str} {c : Ct} {fs : FS}
theorem fnG_ok (lk : G.K.lookup f = some ⟨oc, od, .func (PySem.W.fnOf name qual params body scope dV kV doc pm an cdv ct), osl⟩) (hcd : PySem.W.codeIn G.K cdv qual = true) (S : FnScope N ps scope) (hn : ps.length = n)
    (hbody : ∀ (A : Around) (outer : List PySem.Env) (s : Shared) (H : Hp) (E : XK), A.guards = some [] → Room k (A.deeper (envOfC qual scope s.heap.objs.size f cdv)) →
      PSs (cxOf (L2.CX P w) P w G.K G.mg base N qual scope f cdv A outer s H E) body (tS G (fun cls d _ H => E cls d H) fs))
    (hfs : ∀ ds S Q E, ds.length = n → c ds S Q E → fs (bodyEnds Q E) (startE N ds) S) :
    FnG P w G.K G.mg base (L2.CX P w) (k + 1) f (PySem.W.fnOf name qual params body scope dV kV doc pm an cdv ct) ps (spD G n c) := by
  have ln : ∀ vs H Q E, spD G n c vs H Q E → vs.length = ps.length := fun vs H Q E ⟨m, S, ds, QD, QE, sr, r, hl, _⟩ => by rw [r.length, hl, hn]
  refine ⟨ln, fun A outer s H args us vs Q E hgd hr en bi rv q => ?_⟩
  have lv := ln _ _ _ _ q
  obtain ⟨m, S₀, ds, QD, QE, sr, rr, hl, hc, kk, px⟩ := q
  have kin : G.K.In s.heap := en.mod.kin.keeps fun b o z => (en.bs b o z).1
  refine codeAny_call_function hr.depth (kin _ _ lk) rfl S.co S.gen rfl (PySem.W.codeRec_of kin hcd) (bi _ _ _ _ (wpAny_newFunctionEnv_cells S.kind ?_ ?_))
  · rintro ⟨y, v⟩ my
    exact (S.par y (List.of_mem_zip my).1).imp id fun z => ⟨z, PySem.W.cellsFrom_some scope.names (s.heap.objs.size + 1) [] (.inl z)⟩
  · intro env he s1 x
    subst he
    have lim : s1.heap.NoLimit := (en.mod.nolimit.keeps fun b o z => (en.bs b o z).1).keeps x.toInCall.keep
    refine ⟨lim, codeAny_func (wpAny_mono ((hbody A outer s H E hgd (hr.deeper _)).run [] s1 (start N vs) H
      { nx := fun _ H' => Q .non H', rt := Q } (inv_start S hr.hd en lv rv x) ⟨startE N ds, m, S₀, bodyEnds QD QE, sr, start_env rr, hfs ds S₀ QD QE hl hc, ?_⟩) (fun fl t ht => ?_) fun e t ht => ht)⟩
    · exact ⟨fun m' S' H' σ' τ' e sr' er q => kk m' S' H' .non .non e sr' .non q, kk, fun _ _ _ _ _ _ _ _ z => z.elim, fun _ _ _ _ _ _ _ _ z => z.elim, fun m' S' H' σ' τ' cls dd x e sr' er rx q => px m' S' H' cls dd x e sr' rx q⟩
    · cases fl with
      | ret u => obtain ⟨v, σ', H', J, r', q'⟩ := ht; exact ⟨v, H', J.os, J.bare, J.base, J.hok, r', q'⟩
      | next => obtain ⟨σ', H', J, q'⟩ := ht; exact ⟨.non, H', J.os, J.bare, J.base, J.hok, rfl, q'⟩
      | brk => obtain ⟨_, _, _, q'⟩ := ht; exact q'.elim
      | cont => obtain ⟨_, _, _, q'⟩ := ht; exact q'.elim
end
section
variable {P : Program} {w : World} {G : Gr} {base : Heap} {x : Str} {N ps : List Str} {k : Nat} {c : Ct} {fs : FS} {st : Stmt} {f : Addr} {fd : FuncData}
theorem has_ofG (D : FunD G.K x x (defArgs st) (defBody st) (defScope st) [] [] f fd) (hm : G.mg x = some (.ref f)) (S : FnScope N ps (defScope st))
    (hb : ∀ (kV doc pm : Value) (an : Option Addr) (cdv ct : Value) (us : List Value), us.length = ps.length → bindArgs (PySem.W.fnOf x x (defArgs st) (defBody st) (defScope st) Value.none kV doc pm an cdv ct) { pos := us } = pure (ps.zip us))
    (hbody : ∀ (cdv : Value) (A : Around) (outer : List PySem.Env) (s : Shared) (H : Hp) (E : XK), (∃ (oc : Value) (od : Option Addr) (fd : FuncData) (osl : Array (Option Value)), G.K.lookup f = some ⟨oc, od, .func fd, osl⟩ ∧ fd.code = cdv ∧ ∃ cc, cdv = .ref cc) → A.guards = some [] → Room k (A.deeper (envOfC x (defScope st) s.heap.objs.size f cdv)) →
      PSs (cxOf (L2.CX P w) P w G.K G.mg base N x (defScope st) f cdv A outer s H E) (defBody st) (tS G (fun cls d _ H => E cls d H) fs))
    (hfs : ∀ ds S Q E, ds.length = ps.length → c ds S Q E → fs (bodyEnds Q E) (startE N ds) S) : HasG P w G base x ps (k + 1) c := by
  have bnd := D.bindsA hb
  obtain ⟨⟨oc, od, dV, kV, doc, pm, an, cdv, ct, osl, rfl, lk, hcd', dfl, kwd⟩, kp⟩ := D
  exact ⟨f, _, fnG_ok lk hcd' S rfl (fun A outer s H E hg hr => hbody cdv A outer s H E ⟨oc, od, _, osl, lk, rfl, He.codeIn_ref hcd'⟩ hg hr) hfs, hm, kp, bnd, _, _, _, lk⟩
end
section
variable {G : Gr} {X : Cx} {W : WX} {k : Nat} {x : Str} {ps : List Str} {c : Ct} {p pos : Pos} {e : Expr} {es : List Expr} {fl : FG (List D)}
theorem xfnG {j : Nat} (hgd : X.A.guards = some []) (h : HasG X.prog X.w G X.base x ps j c) (hc : Ct.sized c ps.length) (hr : Room k X.A) (hj : j ≤ k) (tk : Takes X W) (ha : PA X (e :: es) (tA G W fl)) (hK : X.K = G.K := by rfl) (hM : X.mg = G.mg := by rfl) (hg : Gl X x := by unfold Gl; kernel_rfl)
    (hdb : (x == ("__debug__" : Str)) = false := by kernel_rfl) (he : starEach (e :: es) X.env = (false, eval e X.env) :: starEach es X.env := by kernel_rfl) (hpl : (backTo pos (starEach es X.env)).any (·.1) = false := by kernel_rfl) :
    PE X (.Call (.Name x p) (e :: es) [] pos) (tE G W (callE c fl)) := by
  obtain ⟨f, fd, F, hm, kp, b, _⟩ := h.mono hj
  rw [← hK, ← hM] at F
  have kp' : PySem.W.keepIn X.K (.ref f) = true := by rw [hK]; exact kp
  refine ⟨fun pins s σ H Q I ⟨τ, m, S, q⟩ => ?_⟩
  have q' := q.seq (g := fun ds => callC c ds) (R := fun vs H1 => spD G ps.length c vs H1 Q (WE W σ)) fun m1 S1 H1 vs ds e1 sr1 r1 ⟨QD, QE, sr, er, hf, kk, px⟩ => ⟨m1, S1, ds, QD, QE, sr, r1, hc ds S1 QD QE hf, hf, kk, fun m' S' H' cls dd x e sr' rx q => px m' S' H' cls dd x e sr' rx q⟩
  refine wpAny_Call_Name_kw (ld_glob I hg (by rw [hM]; exact hm) ?_ hdb)
  refine PySem.W.callWith_K (h₀ := X.base) I.ok.mod.kin kp' (thn (ha.run pos pins s σ H _ I ⟨τ, m, S, q'⟩) fun us t ⟨vs, H1, I1, r, z⟩ => ⟨I1.kIn, ?_⟩) he hpl
  have hl : us.length = ps.length := by rw [← r.length]; exact F.len _ _ _ _ z
  refine wpAny_call (codeAny_mono (F.run X.A X.stack t H1 ⟨us, []⟩ us vs Q _ hgd hr I1.env0 (b t us hl) r z) fun rs t' zz => ?_)
  cases rs with
  | error e => exact passAt tk σ pins H1 t e t' I1 zz
  | ok fl =>
    cases fl with
    | ret u => exact I1.after zz
    | next => cases zz
    | brk => cases zz
    | cont => cases zz
end
end Dx

set_option Elab.async false
set_option linter.all false
set_option maxRecDepth 100000
set_option maxHeartbeats 4000000
/-! DX: the end for a law's def that wants to know that no repr is under way. -/
namespace Dx
open PySem PySem.Spec PyProof.Rows L2

def emptyT : Obj := { cls := .none, data := .fields #[] }
def listO (vs : List Value) : Obj := { cls := .type "list", data := .seq vs.toArray }
/-- the heap at the law's call: the tables T, the script at a (unless it is of the written part) -/
def gH (frz : Bool) (T : List Addr) (a : Addr) (vs : List Value) (ns : List Int) : Hp := fun b =>
  if b ∈ T then some (.tbl #[]) else if b = a ∧ frz = true then some (.frz (listO vs) (.lst (ns.map V.int))) else none
theorem gH_some {frz : Bool} {T : List Addr} {a b : Addr} {vs : List Value} {ns : List Int} {u : HO} (h : gH frz T a vs ns b = some u) :
    (b ∈ T ∧ u = .tbl #[]) ∨ (b ∉ T ∧ b = a ∧ frz = true ∧ u = .frz (listO vs) (.lst (ns.map V.int))) := by
  unfold gH at h
  by_cases m : b ∈ T
  · rw [if_pos m] at h; cases h; exact .inl ⟨m, rfl⟩
  · rw [if_neg m] at h
    by_cases q : b = a ∧ frz = true
    · rw [if_pos q] at h; cases h; exact .inr ⟨m, q.1, q.2, rfl⟩
    · rw [if_neg q] at h; cases h
/-- what is given at the law's call -/
structure Gd (K : PySem.W.Frag) (mg mb : Str → Option Value) (h : Heap) (a : Addr) (cs : List (Addr × Addr)) (vs : List Value) (ns : List Int) : Prop where
  kin : K.In h
  nsm : h.Ns mainGlobals mg
  nsb : h.Ns builtinsNs mb
  bb : ∀ x : Str, x ≠ "__name__" → mb x = bootBuiltins x
  lim : h.NoLimit
  tab : ∀ p ∈ cs, h.get? p.2 = some emptyT
  out : ∀ p ∈ cs, K.lookup p.2 = none
  hd : ∀ p ∈ cs, PySem.W.CodeHd h p.1 p.2
  bm : ∃ (m : Addr) (ob : Obj), mg "__builtins__" = some (.ref m) ∧ m ≠ builtinsNs ∧ h.get? m = some ob ∧ ob.cls = .type "module" ∧ ob.dict = some builtinsNs ∧ ob.data = .plain
  scr : h.get? a = some (listO vs)
  isI : IntsAre vs ns
  len : ns.length ≤ sizeLine
section
variable {P : Program} {w : World} {K : PySem.W.Frag} {mg mb : Str → Option Value} {h : Heap} {a : Addr} {cs : List (Addr × Addr)} {vs : List Value} {ns : List Int}
def tabs2 (cs : List (Addr × Addr)) : List Addr := cs.map (·.2)
def frzOf (K : PySem.W.Frag) (a : Addr) : Bool := (K.lookup a).isNone
abbrev gHp (K : PySem.W.Frag) (cs : List (Addr × Addr)) (a : Addr) (vs : List Value) (ns : List Int) : Hp := gH (frzOf K a) (tabs2 cs) a vs ns
theorem Gd.tabs (g : Gd K mg mb h a cs vs ns) {b : Addr} (m : b ∈ tabs2 cs) : h.get? b = some emptyT ∧ K.lookup b = none := by
  obtain ⟨p, hp, e⟩ := List.mem_map.mp m
  rw [← e]
  exact ⟨g.tab p hp, g.out p hp⟩
theorem Gd.scrNot (g : Gd K mg mb h a cs vs ns) : a ∉ tabs2 cs := fun m => by
  have z := (g.tabs m).1
  rw [g.scr] at z
  cases congrArg Obj.data (Option.some.inj z)
theorem Gd.clear (g : Gd K mg mb h a cs vs ns) {b : Addr} {o : Obj} (e : h.get? b = some o) (n1 : o.data ≠ .fields #[]) (n2 : ∀ y k, o.data ≠ .seq y k) : gHp K cs a vs ns b = none := by
  cases q : gHp K cs a vs ns b with
  | none => rfl
  | some u =>
    exfalso
    rcases gH_some q with ⟨m, _⟩ | ⟨_, rfl, _, _⟩
    · rw [(g.tabs m).1] at e; cases e; exact n1 rfl
    · rw [g.scr] at e; cases e; exact n2 _ _ rfl
theorem Gd.keep (g : Gd K mg mb h a cs vs ns) {b : Addr} {o : Obj} (e : h.get? b = some o) (n1 : o.data ≠ .fields #[]) (n2 : ∀ y k, o.data ≠ .seq y k) : (hidT h (gHp K cs a vs ns)).get? b = some o := hidT_get e (g.clear e n1 n2)
theorem Gd.nsK (g : Gd K mg mb h a cs vs ns) {b : Addr} {m : Str → Option Value} (n : h.Ns b m) : (hidT h (gHp K cs a vs ns)).Ns b m := by
  obtain ⟨o, es, k, e, d, r⟩ := n
  exact ⟨o, es, k, g.keep e (by rw [d]; intro z; cases z) (fun y k z => by rw [d] at z; cases z), d, r⟩
theorem Gd.kinB (g : Gd K mg mb h a cs vs ns) : K.In (hidT h (gHp K cs a vs ns)) := fun b o e => hidT_get (g.kin b o e) (by
  cases q : gHp K cs a vs ns b with
  | none => rfl
  | some u =>
    exfalso
    rcases gH_some q with ⟨m, _⟩ | ⟨_, rfl, f, _⟩
    · rw [(g.tabs m).2] at e; cases e
    · unfold frzOf at f; rw [e] at f; cases f)
theorem Gd.mod (g : Gd K mg mb h a cs vs ns) : L2.Mod K mg (hidT h (gHp K cs a vs ns)) := by
  obtain ⟨c, l1, l2⟩ := g.lim
  exact ⟨g.kinB, g.nsK g.nsm, ⟨mb, g.nsK g.nsb, g.bb⟩, c, g.nsK l1, l2⟩
theorem Gd.tabB (g : Gd K mg mb h a cs vs ns) (p : Addr × Addr) (hp : p ∈ cs) : LamX.TabB (hidT h (gHp K cs a vs ns)) mg p.1 p.2 := by
  have ht := g.tab p hp
  refine ⟨?_, ?_, ?_⟩
  · obtain ⟨o, us, f1, f2, f3, f4, f5, f6, f7, e, r1, r2, r3, rest⟩ := g.hd p hp
    refine ⟨o, us, f1, f2, f3, f4, f5, f6, f7, g.keep e (fun z => ?_) (fun y k z => ?_), r1, r2, r3, rest⟩
    · rw [r2] at z; cases z; simp at r3
    · rw [r2] at z; cases z
  · obtain ⟨m, ob, b1, b2, b3, b4, b5, b6⟩ := g.bm
    have ne1 : m ≠ mainGlobals := by
      rintro rfl
      obtain ⟨o, es, k, e, d, _⟩ := g.nsm
      rw [e] at b3; cases b3
      rw [d] at b6; cases b6
    have ne2 : m ≠ p.2 := by
      rintro rfl
      rw [ht] at b3; cases b3; cases b6
    exact ⟨m, ob, b1, b2, ne1, ne2, g.keep b3 (fun z => by rw [b6] at z; cases z) (fun y k z => by rw [b6] at z; cases z), b4, b5, b6⟩
  · intro z
    obtain ⟨o, es, k, e, d, _⟩ := g.nsm
    rw [z, ht] at e; cases e; cases d
theorem Gd.hok (g : Gd K mg mb h a cs vs ns) : HOk P w (gHp K cs a vs ns) h := fun b u e => by
  rcases gH_some e with ⟨m, rfl⟩ | ⟨_, rfl, _, rfl⟩
  · exact (g.tabs m).1
  · exact ⟨g.scr, by rw [List.length_map]; exact g.len, vs, _, vals_ints g.isI, g.scr⟩
theorem Gd.sql (g : Gd K mg mb h a cs vs ns) : SqL K (gHp K cs a vs ns) a (ns.map V.int) := by
  cases q : K.lookup a with
  | none =>
    refine .inl (.inr ⟨listO vs, ?_⟩)
    show gH (frzOf K a) _ _ _ _ a = _
    unfold gH
    rw [if_neg g.scrNot, if_pos ⟨rfl, by unfold frzOf; rw [q]; rfl⟩]
  | some o =>
    have e := g.kin a o q
    rw [g.scr] at e
    cases e
    exact .inr ⟨_, vs.toArray, _, q, rfl, rfl, rfl, by have l2 := g.isI.length; have l3 := g.len; rw [List.size_toArray]; omega, by simpa using vals_ints g.isI⟩
theorem Gd.tbls (g : Gd K mg mb h a cs vs ns) (p : Addr × Addr) (hp : p ∈ cs) : gHp K cs a vs ns p.2 = some (.tbl #[]) := if_pos (List.mem_map.mpr ⟨p, hp, rfl⟩)
theorem Gd.call {CX : CXT} {k : Nat} {fa : Addr} {fd : FuncData} {x : Str} {sp : Sp} {t : Shared} (g : Gd K mg mb t.heap a cs vs ns) (hg : t.gens = #[]) (hr : Room k callerA)
    (F : ∀ base : Heap, K.In base → base.Ns mainGlobals mg → (∀ p ∈ cs, LamX.TabB base mg p.1 p.2) → FnG P w K mg base CX k fa fd [x] sp) (hbind : ∀ (s : Shared) (u : Value), BindsTo s fd ⟨[u], []⟩ [(x, u)])
    (hsp : ∀ H : Hp, (∀ p ∈ cs, H p.2 = some (.tbl #[])) → SqL K H a (ns.map V.int) → sp [.ref a] H (fun v _ => v = .bl true) fun _ _ _ => False)
    (hCX : ∀ H e s', CX [] H t (fun _ _ _ => False) e s' → False) :
    codeAny (model P w) callerA (.call (.ref fa) ⟨[.ref a], []⟩) (fun r s' => r = .ok (.ret (.bool true)) ∧ OldK t.heap s'.heap ∧ s'.os = t.os ∧ AllBare s'.gens) t := by
  have en : Env0 P w K mg (hidT t.heap (gHp K cs a vs ns)) callerA [] t (gHp K cs a vs ns) := { frames := rfl, mod := g.mod, bs := fun _ _ => of_hidT, bsz := Nat.le_of_eq (hidT_size _ _), funs := trivial, frf := fun _ z => (nomatch z), hok := g.hok, bare := .of_eq hg }
  refine codeAny_mono ((F _ g.kinB (g.nsK g.nsm) g.tabB).run callerA [] t _ ⟨[.ref a], []⟩ [.ref a] [.ref a] _ _ rfl hr en (hbind t _) (.cons rfl .nil) (hsp _ g.tbls g.sql)) fun r s' q => ?_
  match r, q with
  | .error e, q => exact (hCX _ e s' q).elim
  | .ok .next, q => exact q.elim
  | .ok .brk, q => exact q.elim
  | .ok .cont, q => exact q.elim
  | .ok (.ret u), ⟨v, H', os, bare, un, hok', rv, e⟩ =>
    have e' : v = .bl true := e
    subst e'
    obtain rfl : u = Value.bool true := rv
    have grow : ∀ p ∈ cs, ∃ more : Array Value, s'.heap.get? p.2 = some { cls := .none, data := .fields more } := fun p hp => by
      obtain ⟨more, z⟩ := un.tbls p.2 #[] (g.tbls p hp)
      exact ⟨_, hok' p.2 _ z⟩
    have same : ∀ b o, b ∉ tabs2 cs → t.heap.get? b = some o → s'.heap.get? b = some o := fun b o nb e => by
      cases q : gHp K cs a vs ns b with
      | none => exact un.keep b o e q (fun z => nomatch z) (fun z => nomatch z)
      | some u =>
        rcases gH_some q with ⟨m, _⟩ | ⟨_, rfl, _, rfl⟩
        · exact absurd m nb
        · have z := (hok' _ _ (un.frzs _ _ _ q)).1
          rw [g.scr] at e
          cases e
          exact z
    have both : ∀ b o, t.heap.get? b = some o → (b ∉ tabs2 cs ∧ s'.heap.get? b = some o) ∨ ∃ p ∈ cs, p.2 = b ∧ o = emptyT ∧ ∃ more : Array Value, s'.heap.get? b = some { cls := .none, data := .fields more } := fun b o e => by
      by_cases hb : b ∈ tabs2 cs
      · obtain ⟨p, hp, rfl⟩ := List.mem_map.mp hb
        have e2 := g.tab p hp
        rw [e2] at e
        cases e
        exact .inr ⟨p, hp, rfl, rfl, grow p hp⟩
      · exact .inl ⟨hb, same b o hb e⟩
    refine ⟨rfl, ⟨fun b o e => ?_, fun b o e => ?_⟩, os, bare⟩
    · rcases both b o e with ⟨_, z⟩ | ⟨p, hp, rfl, rfl, more, z⟩
      · exact .inl z
      · exact .inr (.inl ⟨((g.hd p hp).tab (g.tab p hp)).isCodeTable, rfl, #[], more, rfl, by rw [Array.empty_append]; exact z⟩)
    · rcases both b o e with ⟨_, z⟩ | ⟨p, hp, rfl, rfl, more, z⟩
      · exact ⟨o, z⟩
      · exact ⟨_, z⟩
end
theorem dx_walkG {l : PySem.W.OpenLaw} {n nn k : Nat} {q : Program} {loose : List Str} {XP : (Str → Option Value) → Heap → Prop} {d : DefRec} {fa : List He.Fa} {fn : List He.DefD} {tf : List He.Defn} {ex : PySem.W.Frag → Bool} {nm x : Str} {c : World → Gr → Ct} {st : Stmt}
    (hn : l.most = some n) (hn2 : n ≤ sizeLine) (hdf : d.params.defaults = []) (hnm : d.name = nm) (hr : Room k callerA) (hpl : ∀ K, ex K = true → plainL K = true) (hdl : dd nm st ∈ fn) (hgl : He.Fa.glo nm ∈ fa)
    (hb : ∀ (kV doc pm : Value) (an : Option Addr) (cdv ct : Value) (us : List Value), us.length = ([x] : List Str).length → bindArgs (PySem.W.fnOf nm nm (defArgs st) (defBody st) (defScope st) Value.none kV doc pm an cdv ct) { pos := us } = pure (([x] : List Str).zip us))
    (F : ∀ (w : World) (mg : Str → Option Value) (h : Heap) (K : PySem.W.Frag), K.In h → h.Ns mainGlobals mg → He.SaysX fa fn [] tf ex w h K → ∀ base : Heap, K.In base → base.Ns mainGlobals mg → (∀ p ∈ tf, LamX.TabB base mg (He.cT K p).1 (He.cT K p).2) →
      HasG l.prog w ⟨K, mg, tabsOf tf K⟩ base nm [x] k (c w ⟨K, mg, tabsOf tf K⟩))
    (hc : ∀ (w : World) (G : Gr) (ns : List Int), ns.length ≤ n → (∀ z ∈ ns, Builtin.Int.intBits z ≤ 1048576) → c w G [.lst (scr ns)] [] (fun d _ => d = .bl true) noX) :
    PySem.W.WalkO q loose XP (He.hookX nn fa fn [] tf ex).says l.row.toRowW d [] (fun f vs => PySem.call f vs) := by
  subst hnm
  refine Att.attach_callB hn hdf fun w s₀ t mg mb fad o pm cd doc a vs ns GG YY ho hd hcd hmg hobj hints hlen hbits hg => ?_
  obtain ⟨K, KX, Y⟩ := YY
  have key := F w mg t.heap K KX GG.T.g Y
  obtain ⟨fd, D⟩ := defs_fun Y.t.d hdl
  have hg2 := He.glo_ok KX GG.T.g (Y.t.d.facts hgl)
  rw [hg2] at hmg
  cases hmg
  have hcs : ∀ {R : Addr × Addr → Prop}, (∀ q ∈ tf, R (He.cT K q)) → ∀ p ∈ tf.map (He.cT K), R p := fun hq p hp => by
    obtain ⟨q, hm, rfl⟩ := List.mem_map.mp hp
    exact hq q hm
  have gd : Gd K mg mb t.heap a (tf.map (He.cT K)) vs ns := { kin := KX, nsm := GG.T.g, nsb := GG.T.b, bb := GG.T.builtins, lim := GG.T.nolimit, tab := hcs fun q hq => Y.empty q hq, out := hcs fun q hq => Y.out q hq, hd := hcs fun q hq => PySem.W.codeHd_of_K KX (Y.hd q hq), bm := GG.T.bmain, scr := hobj, isI := hints, len := Nat.le_trans hlen hn2 }
  refine gd.call (CX := L2.CX l.prog w) (sp := spD ⟨K, mg, tabsOf tf K⟩ 1 (c w ⟨K, mg, tabsOf tf K⟩)) (fd := fd) hg hr (fun base Kb Gb hT => ?_) (fun s u => D.bindsA hb s [u] rfl) (fun H hH hS => ?_) fun H e s' z => ?_
  · obtain ⟨f, fd2, F, hm, kp, b, oc, od, osl, lk⟩ := key base Kb Gb fun p hp => hT _ (List.mem_map.mpr ⟨p, hp, rfl⟩)
    have hm : mg d.name = some (.ref f) := hm
    rw [hg2] at hm
    cases hm
    obtain ⟨⟨oc', od', dV, kV, doc, pm, an, cdv, ct, osl', e, lk', hcd', dfl, kwd⟩, kp'⟩ := D
    have lk : K.lookup (He.ga K d.name) = _ := lk
    rw [lk'] at lk
    cases lk
    exact F
  · have tb : LamX.Tabs (tabsOf tf K) H := fun p hp => by
      obtain ⟨q, hq, rfl⟩ := List.mem_map.mp hp
      exact .nil (hH _ (List.mem_map.mpr ⟨q, hq, rfl⟩))
    refine ⟨⟨[], []⟩, [], [.lst (scr ns)], fun d _ => d = .bl true, noX, ⟨rfl, fun i j a h => (by cases h), fun i a o h => (by cases h), tb, fun i h => (by cases h), fun a h => (by cases h)⟩, ?_, rfl, hc w _ ns hlen hbits, fun m' S' H' v dd e sr r q => ?_, fun _ _ _ _ _ _ _ _ _ z => z.elim⟩
    · refine .cons ?_ .nil
      rcases plainL_ok (hpl K Y.more) hS with h | h
      · exact .lst h (by rintro (⟨i, z⟩ | z) <;> cases z) (repScr ns)
      · exact .klst h (repScr ns)
    · subst q
      cases r
      rfl
  · obtain ⟨_, _, _, _, _, _, _, _, _, _, _, _, z⟩ := z
    exact z.elim
end Dx

set_option Elab.async false
set_option linter.all false
set_option maxRecDepth 100000
set_option maxHeartbeats 4000000
/-! DX: repr of tuples and lists of numbers, None, truth values. -/
namespace Dx
open PySem PySem.Spec PyProof.Rows L2
mutual
/-- numbers of at most 1900 bits, None, truth values; tuples and lists of such -/
def shoD : D → Bool
  | .non | .bl _ => true
  | .int i => decide (i.natAbs < 2 ^ 1900)
  | .tup ds | .lst ds => shoDs ds
  | _ => false
def shoDs : List D → Bool
  | [] => true
  | d :: ds => shoD d && shoDs ds
end
mutual
def cntD : D → Nat
  | .tup ds | .lst ds => cntDs ds + 1
  | _ => 1
def cntDs : List D → Nat
  | [] => 0
  | d :: ds => cntD d + cntDs ds
end
/-- fit to be shown -/
def repOk (d : D) : Bool := shoD d && decide (cntD d ≤ 2000) && decide (depD d ≤ 60) && (match d with | .tup _ | .lst _ => true | _ => false)
/-- what repr shows -/
def reprT (d : D) : Str := match toPy d with | some p => p.shown | none => default
theorem log_of {i : Int} (h : i.natAbs < 2 ^ 1900) : i.natAbs.log2 < 1920 := by
  by_cases z : i.natAbs = 0
  · rw [z]; decide
  · have := (Nat.log2_lt z).mpr h
    omega
mutual
theorem sho_py : ∀ (d : D), shoD d = true → ∃ p, toPy d = some p ∧ p.showable = true ∧ p.hasDict = false ∧ p.depth = depD d ∧ p.shown.length + 2 ≤ 2000 * cntD d
  | .non, _ => ⟨.none, rfl, rfl, rfl, rfl, by have e : (PyData.shown .none).length = 4 := rfl; rw [e]; show 4 + 2 ≤ 2000 * 1; omega⟩
  | .bl b, _ => ⟨.bool b, rfl, rfl, rfl, rfl, by have e : (PyData.shown (.bool b)).length ≤ 5 := by cases b <;> decide
                                                 show _ + 2 ≤ 2000 * 1; omega⟩
  | .int i, h => by
    have h' : i.natAbs < 2 ^ 1900 := by simpa only [shoD, decide_eq_true_eq] using h
    refine ⟨.int i, rfl, by simpa only [PyData.showable, decide_eq_true_eq] using log_of h', rfl, rfl, ?_⟩
    have e : (PyData.shown (.int i)).length ≤ 1921 := int_text_len_1921 (log_of h')
    show _ + 2 ≤ 2000 * 1
    omega
  | .tup ds, h => by
    obtain ⟨ps, a1, a2, a3, a4, a5, a6⟩ := sho_pys ds (by simpa [shoD] using h)
    refine ⟨.tuple ps, by simp [toPy, a1], by simpa [PyData.showable] using a2, by simpa [PyData.hasDict] using a3, by simp [PyData.depth, depD, a4], ?_⟩
    have e := tupleText_len_le (PyData.shownAll ps)
    have e2 := PyData.shownAll_length ps
    simp only [PyData.shown, cntD]
    omega
  | .lst ds, h => by
    obtain ⟨ps, a1, a2, a3, a4, a5, a6⟩ := sho_pys ds (by simpa [shoD] using h)
    refine ⟨.list ps, by simp [toPy, a1], by simpa [PyData.showable] using a2, by simpa [PyData.hasDict] using a3, by simp [PyData.depth, depD, a4], ?_⟩
    have e := listText_len_le (PyData.shownAll ps)
    have e2 := PyData.shownAll_length ps
    simp only [PyData.shown, cntD]
    omega
  | .str _, h => by simp [shoD] at h
  | .obj _, h => by simp [shoD] at h
  | .ty _, h => by simp [shoD] at h
  | .gl _, h => by simp [shoD] at h
  | .exv _, h => by simp [shoD] at h
theorem sho_pys : ∀ (ds : List D), shoDs ds = true → ∃ ps, toPys ds = some ps ∧ PyData.showableAll ps = true ∧ PyData.hasDictAll ps = false ∧ PyData.depthAll ps = depDs ds ∧ ps.length = ds.length ∧ ((PyData.shownAll ps).map (·.length)).sum + 2 * ps.length ≤ 2000 * cntDs ds
  | [], _ => ⟨[], rfl, rfl, rfl, rfl, rfl, by simp [PyData.shownAll, cntDs]⟩
  | d :: ds, h => by
    have h' : shoD d = true ∧ shoDs ds = true := by simpa [shoDs] using h
    obtain ⟨p, a1, a2, a3, a4, a5⟩ := sho_py d h'.1
    obtain ⟨ps, b1, b2, b3, b4, b5, b6⟩ := sho_pys ds h'.2
    refine ⟨p :: ps, by simp [toPys, a1, b1], by simp [PyData.showableAll, a2, b2], by simp [PyData.hasDictAll, a3, b3], by simp [PyData.depthAll, depDs, a4, b4], by simp [b5], ?_⟩
    simp only [PyData.shownAll, List.map_cons, List.sum_cons, List.length_cons, cntDs]
    omega
end
def shownR (K : PySem.W.Frag) (xs : List V) (H : Hp) (Q : VK) : Prop := ∃ v p, xs = [v] ∧ Dp K H v p ∧ p.showable = true ∧ p.hasDict = false ∧ p.depth ≤ 60 ∧ p.shown.length ≤ sizeLine ∧ ((∃ ps, p = .tuple ps) ∨ ∃ ps, p = .list ps) ∧ Q (.str p.shown) H
section
variable {G : Gr} {X : Cx}
theorem call_reprD (hg : X.A.guards = some []) (hu : X.A.units + 70 < cLine) : CallR X (.builtin "repr") (shownR X.K) := by
  intro pins s σ H xs us Q I r h
  obtain ⟨v, p, rfl, hd, h1, h2, h3, h4, h5, q⟩ := h
  obtain ⟨u, rfl, rv⟩ : ∃ u, us = [u] ∧ RelV v u := by
    cases r with
    | cons a r => cases r; exact ⟨_, rfl, a⟩
  obtain ⟨as, rd⟩ := Dp.reads I p v u hd rv
  obtain ⟨a, rfl⟩ : ∃ a, u = .ref a := by
    rcases h5 with ⟨ps, rfl⟩ | ⟨ps, rfl⟩ <;> cases rd <;> exact ⟨_, rfl⟩
  exact repr_of_reads' rd h1 (PyData.noDict_hsm h2) hg (by omega) (fun _ _ e => e) (fun h' t tk hk => ⟨.str p.shown, H, I.kept (t' := tk) hk, ⟨t, rfl⟩, q⟩) h4
def reprB (ds : List D) : F := optF fun _ => match ds with
  | [d] => if repOk d = true then some (.str (reprT d)) else none
  | _ => none
theorem bf_repr {k : Nat} (hg : X.A.guards = some []) (hr : Room k X.A) (hK : X.K = G.K := by rfl) : BF G X (.builtin "repr") reprB := by
  refine ⟨_, call_reprD hg (by have := hr.un; omega), fun W τ m S σ H Q vs ds r hA => ?_⟩
  obtain ⟨d, hd, k⟩ := hA.fin
  split at hd
  · rename_i x
    split at hd
    · rename_i ho
      cases hd
      cases r with
      | cons a r =>
        cases r
        unfold repOk at ho
        simp only [Bool.and_eq_true, decide_eq_true_eq] at ho
        obtain ⟨⟨⟨o1, o2⟩, o3⟩, o4⟩ := ho
        obtain ⟨p, p1, p2, p3, p4, p5⟩ := sho_py x o1
        have e : reprT x = p.shown := by unfold reprT; rw [p1]
        have hs := sizeLine_eq
        refine ⟨_, p, rfl, by rw [hK]; exact Rep.dp a p1, p2, p3, by omega, by omega, ?_, k m H _ (Ext.refl _ _) hA.sr (by rw [e]; exact .str _)⟩
        cases x with
        | tup ds => obtain ⟨ps, _, rfl⟩ := toPy_tup p1; exact .inl ⟨ps, rfl⟩
        | lst ds => obtain ⟨ps, _, rfl⟩ := toPy_lst p1; exact .inr ⟨ps, rfl⟩
        | _ => cases o4
    · cases hd
  · cases hd
/-! == of two texts -/
def seqO (x y : D) (_ : Store) : Option D := match x, y with
  | .str a, .str b => some (.bl (a == b))
  | _, _ => none
def seqG (x y : D) : F := optF (seqO x y)
theorem oeqs : OpF G X (compareOp .Eq) seqG := by
  refine ⟨_, op_eq, fun W τ m S σ H Q v w x y rv rw_ hA => ?_⟩
  obtain ⟨d, hd, k⟩ := hA.fin
  unfold seqO at hd
  split at hd
  · cases hd
    cases rv
    cases rw_
    exact ⟨rfl, k m H _ (Ext.refl _ _) hA.sr (by rw [dec_str]; exact .bl _)⟩
  · cases hd
end
end Dx

set_option Elab.async false
set_option linter.all false
set_option maxRecDepth 100000
set_option maxHeartbeats 4000000
/-! DX: a list comprehension with two fors. -/
namespace Dx
open PySem PySem.Spec PyProof.Rows L2
def comp2L (t : Tg) (ft : FG Bool) (fi1 : FG Its') (t1 : Tg) (ft1 : FG Bool) (fe : F) (vs1 : List Nat) (chk : Store → Prop) (τ : Env) : List D → List D → Store → (List D → Store → Prop) → Prop
  | [], acc, S, Q => chk S ∧ Q acc S
  | d :: ds, acc, S, Q => chk S ∧ match bindT t d τ with
    | some τ' => ft τ' S (fun b S1 => if b = true then fi1 τ' S1 (fun p S2 => compL t1 ft1 fe p.2 (wipeE τ' vs1) p.1 acc S2 (fun acc' S3 => comp2L t ft fi1 t1 ft1 fe vs1 chk τ ds acc' S3 Q)) noX
        else comp2L t ft fi1 t1 ft1 fe vs1 chk τ ds acc S1 Q) noX
    | none => False
def comp2F (mu : Bool) (fi : FG Its') (t : Tg) (ft : FG Bool) (fi1 : FG Its') (t1 : Tg) (ft1 : FG Bool) (fe : F) (vs vs1 : List Nat) : F := fun τ S Q E => fi τ S (fun p S1 => comp2L t ft fi1 t1 ft1 fe vs1 p.2 (wipeE τ vs) p.1 [] S1 (fun acc S2 => newL mu acc τ S2 Q E)) E
section
variable {G : Gr} {W : WX} {fi fi1 : FG Its'} {t t1 : Tg} {ft ft1 : FG Bool} {fe : F} {vs vs1 : List Nat} {mu : Bool} {σ : L2.St} {H : Hp} {Q : VK} {g g1 : TG}
theorem tLc2_imp (hvs : ∀ i ∈ slotsT t, i ∈ vs) (hvs1 : ∀ i ∈ slotsT t1, i ∈ vs1)
    (kg : ∀ (m : Mp) (S : Store) (H : Hp) (σ : L2.St) (τ τ' : Env) (v : V) (d : D) (Q : L2.St → Hp → Prop), SR G m S H → EnvR G m H σ τ → Rep G m H v d → bindT t d τ = some τ' → (∀ σ', EnvR G m H σ' τ' → SameBut (slotsT t) σ σ' → Q σ' H) → g v σ H Q)
    (kg1 : ∀ (m : Mp) (S : Store) (H : Hp) (σ : L2.St) (τ τ' : Env) (v : V) (d : D) (Q : L2.St → Hp → Prop), SR G m S H → EnvR G m H σ τ → Rep G m H v d → bindT t1 d τ = some τ' → (∀ σ', EnvR G m H σ' τ' → SameBut (slotsT t1) σ σ' → Q σ' H) → g1 v σ H Q)
    (h : tE G W (comp2F mu fi t ft fi1 t1 ft1 fe vs vs1) σ H Q) : tLc2 (tI G W fi) g (tT G W0 ft) (tI G W0 fi1) g1 (tT G W0 ft1) (tE G W0 fe) vs vs1 σ H Q := by
  obtain ⟨τ, m, S, QD, QE, sr, er, hf, k, px⟩ := h
  refine ⟨τ, m, S, _, QE, sr, er, hf, fun m1 S1 H1 J pq e1 sr1 ⟨Src, J1, src1⟩ q1 => ?_, px⟩
  obtain ⟨ds, chk⟩ := pq
  intro D hD
  have src1 := src1 S1 sr1
  have h0 := Ext0.hide (m := m1) (o := .lst []) hD
  have srH := sr1.hide hD
  -- what holds beside the loops: Inv m' S' H' acc accD
  let P : Mp → Store → Hp → List V → List Dx.D → Prop := fun m' S' H' acc accD => m'.hid = D :: m1.hid ∧ Ext m1 H1 (m'.hidAs m1.hid) H' ∧ SR G m' S' H' ∧ EnvR G m' H' (L2.wipe σ vs) (wipeE τ vs) ∧ Src m' S' H' ∧ H' D = some (.lst acc) ∧ RepAll G m' H' acc accD
  have Pstep : ∀ {m2 S2 H2 acc accD m3 S3 H3}, P m2 S2 H2 acc accD → Ext m2 H2 m3 H3 → SR G m3 S3 H3 → P m3 S3 H3 acc accD := by
    rintro m2 S2 H2 acc accD m3 S3 H3 ⟨a1, a2, a3, a4, a5, a6, a7⟩ e s3
    have inh : D ∈ m2.hid := by rw [a1]; exact List.mem_cons_self
    exact ⟨e.hid.trans a1, a2.outer hD a1 e, s3, a4.mono a3 e, J1.mono _ _ _ _ _ _ a3 s3 e.to0 a5, (e.hidk D inh).trans a6, a7.mono a3 e⟩
  let K : List Dx.D → Store → Prop := fun acc S2 => newL mu acc τ S2 QD QE
  refine ⟨fun i μ H' => μ = ds.length - i ∧ ∃ m' S' acc accD, i ≤ ds.length ∧ P m' S' H' acc accD ∧ comp2L t ft fi1 t1 ft1 fe vs1 chk (wipeE τ vs) (ds.drop i) accD S' K,
    ⟨ds.length, by simp, m1.hide D, S1, [], [], Nat.zero_le _, ⟨rfl, ?_, srH, ((er.mono sr e1).mono0 sr1 h0).wipe vs, J1.mono _ _ _ _ _ _ sr1 srH h0 src1, upd_same, .nil⟩, by simpa using q1⟩, ?_⟩
  · have : (m1.hide D).hidAs m1.hid = m1 := rfl
    rw [this]
    exact Ext.upd sr1 hD
  rintro i μ H2 ⟨rfl, m2, S2, acc, accD, hi2, p2, c2⟩
  have ⟨hh2, ec2, sr2, er2, src2, hD2, ra2⟩ := p2
  by_cases hl : i < ds.length
  · obtain ⟨d, hd⟩ : ∃ d, ds[i]? = some d := ⟨ds[i], List.getElem?_eq_getElem hl⟩
    have ed : ds.drop i = d :: ds.drop (i + 1) := by
      rw [List.drop_eq_getElem_cons hl]
      congr 1
      rw [List.getElem?_eq_getElem hl] at hd
      exact Option.some.inj hd
    rw [ed] at c2
    obtain ⟨hc2, c2⟩ := c2
    obtain ⟨jg, jy⟩ := J1.go i d m2 S2 H2 sr2 src2 hc2 hd
    refine .inr ⟨jg, fun H' => ∃ m' S' acc accD, P m' S' H' acc accD ∧ comp2L t ft fi1 t1 ft1 fe vs1 chk (wipeE τ vs) (ds.drop (i + 1)) accD S' K, fun H' ⟨m', S', acc, accD, a1, a2⟩ => ⟨ds.length - (i + 1), by omega, rfl, m', S', acc, accD, hl, a1, a2⟩, fun v H3 y3 => ?_⟩
    obtain ⟨e3, sr3, r3⟩ := jy v H3 y3
    have er3 := er2.mono sr2 e3
    cases q : bindT t d (wipeE τ vs) with
    | none => rw [q] at c2; exact c2.elim
    | some τ3 =>
      rw [q] at c2
      refine kg m2 S2 H3 _ _ τ3 v d _ sr3 er3 r3 q fun σ3 er3' sb => ⟨wipe_congr sb hvs, τ3, m2, S2, _, noX, sr3, er3', c2, fun m4 S4 H4 b b' e4 sr4 rb q4 => ?_, fun _ _ _ _ _ _ _ _ _ z => z.elim⟩
      cases (show b = b' from rb)
      have p4 := Pstep p2 (e3.trans e4) sr4
      cases b with
      | false =>
        rw [if_neg Bool.false_ne_true] at q4 ⊢
        exact ⟨m4, S4, acc, accD, p4, q4⟩
      | true =>
        rw [if_pos rfl] at q4 ⊢
        have er4' := er3'.mono sr3 e4
        refine ⟨τ3, m4, S4, _, noX, sr4, er4', q4, fun m5 S5 H5 J' pq' e5 sr5 ⟨Src', J2, src5⟩ q5 => ?_, fun _ _ _ _ _ _ _ _ _ z => z.elim⟩
        obtain ⟨ds', chk'⟩ := pq'
        have src5 := src5 S5 sr5
        refine ⟨fun j μ H' => μ = ds'.length - j ∧ ∃ m' S' acc accD, j ≤ ds'.length ∧ P m' S' H' acc accD ∧ EnvR G m' H' (L2.wipe σ3 vs1) (wipeE τ3 vs1) ∧ Src' m' S' H' ∧
            compL t1 ft1 fe chk' (wipeE τ3 vs1) (ds'.drop j) accD S' (fun acc' S3 => comp2L t ft fi1 t1 ft1 fe vs1 chk (wipeE τ vs) (ds.drop (i + 1)) acc' S3 K),
          ⟨ds'.length, by simp, m5, S5, acc, accD, Nat.zero_le _, Pstep p4 e5 sr5, (er4'.mono sr4 e5).wipe vs1, src5, by simpa using q5⟩, ?_⟩
        rintro j μ H6 ⟨rfl, m6, S6, ac, acD, hj6, p6, er6, src6, c6⟩
        have ⟨hh6, ec6, sr6, _, srco6, hD6, ra6⟩ := p6
        by_cases hl' : j < ds'.length
        · obtain ⟨d', hd'⟩ : ∃ d, ds'[j]? = some d := ⟨ds'[j], List.getElem?_eq_getElem hl'⟩
          have ed' : ds'.drop j = d' :: ds'.drop (j + 1) := by
            rw [List.drop_eq_getElem_cons hl']
            congr 1
            rw [List.getElem?_eq_getElem hl'] at hd'
            exact Option.some.inj hd'
          rw [ed'] at c6
          obtain ⟨hc6, c6⟩ := c6
          obtain ⟨jg', jy'⟩ := J2.go j d' m6 S6 H6 sr6 src6 hc6 hd'
          refine .inr ⟨jg', fun H' => ∃ m' S' acc accD, P m' S' H' acc accD ∧ EnvR G m' H' (L2.wipe σ3 vs1) (wipeE τ3 vs1) ∧ Src' m' S' H' ∧
            compL t1 ft1 fe chk' (wipeE τ3 vs1) (ds'.drop (j + 1)) accD S' (fun acc' S3 => comp2L t ft fi1 t1 ft1 fe vs1 chk (wipeE τ vs) (ds.drop (i + 1)) acc' S3 K), fun H' ⟨m', S', acc, accD, a1, a2, a3, a4⟩ => ⟨ds'.length - (j + 1), by omega, rfl, m', S', acc, accD, hl', a1, a2, a3, a4⟩, fun v' H7 y7 => ?_⟩
          obtain ⟨e7, sr7, r7⟩ := jy' v' H7 y7
          have er7 := er6.mono sr6 e7
          cases q' : bindT t1 d' (wipeE τ3 vs1) with
          | none => rw [q'] at c6; exact c6.elim
          | some τ7 =>
            rw [q'] at c6
            refine kg1 m6 S6 H7 _ _ τ7 v' d' _ sr7 er7 r7 q' fun σ7 er7' sb' => ⟨wipe_congr sb' hvs1, τ7, m6, S6, _, noX, sr7, er7', c6, fun m8 S8 H8 b b' e8 sr8 rb q8 => ?_, fun _ _ _ _ _ _ _ _ _ z => z.elim⟩
            cases (show b = b' from rb)
            have e68 := e7.trans e8
            have p8 := Pstep p6 e68 sr8
            have src8 := J2.mono _ _ _ _ _ _ sr6 sr8 e68.to0 src6
            cases b with
            | false =>
              rw [if_neg Bool.false_ne_true] at q8 ⊢
              exact ⟨m8, S8, ac, acD, p8, er6.mono sr6 e68, src8, q8⟩
            | true =>
              rw [if_pos rfl] at q8 ⊢
              refine ⟨τ7, m8, S8, _, noX, sr8, er7'.mono sr7 e8, q8, fun m9 S9 H9 y x e9 sr9 r9 q9 => ?_, fun _ _ _ _ _ _ _ _ _ z => z.elim⟩
              obtain ⟨hz, q9⟩ := q9
              have e69 := e68.trans e9
              obtain ⟨hh9, ec9, _, er9, srco9, hD9, ra9⟩ := Pstep p6 e69 sr9
              have in9 : D ∈ m9.hid := by rw [hh9]; exact List.mem_cons_self
              have f9 := Ext0.fill (H := H9) (o := .lst (ac ++ [y])) in9
              have srf := sr9.fill (xs := ac ++ [y]) in9
              refine ⟨ac, hD9, by rw [ra9.length]; exact hz, m9, S9, ac ++ [y], acD ++ [x], ⟨hh9, Ext.outerFill sr1 (ec6.outer hD hh6 e69) hD, srf, er9.mono0 sr9 f9, J1.mono _ _ _ _ _ _ sr9 srf f9 srco9, upd_same, (ra9.append (.cons r9 .nil)).mono0 sr9 f9⟩, (er6.mono sr6 e69).mono0 sr9 f9, J2.mono _ _ _ _ _ _ sr9 srf f9 (J2.mono _ _ _ _ _ _ sr6 sr9 e69.to0 src6), q9⟩
        · have e : j = ds'.length := by omega
          rw [e, List.drop_length] at c6
          obtain ⟨hc6, c6⟩ := c6
          exact .inl ⟨J2.stop j m6 S6 H6 sr6 src6 hc6 (by show ds'.length ≤ j; omega), m6, S6, ac, acD, p6, c6⟩
  · have e : i = ds.length := by omega
    rw [e, List.drop_length] at c2
    obtain ⟨hc2, c2⟩ := c2
    refine .inl ⟨J1.stop i m2 S2 H2 sr2 src2 hc2 (by show ds.length ≤ i; omega), ?_⟩
    have nD : D ∉ m1.hid := fun z => by
      obtain ⟨⟨xs, h⟩, _⟩ := sr1.hidt D z
      rw [hD] at h; cases h
    have c2 : newL mu accD τ S2 QD QE := c2
    unfold Dx.newL at c2
    cases mu with
    | false =>
      rw [if_neg Bool.false_ne_true] at c2
      exact k (m2.hidAs m1.hid) S2 H2 _ _ (e1.trans ec2) (sr2.unhide hh2) (rep_unhide sr2 hh2 nD hD2 ra2) c2
    | true =>
      rw [if_pos rfl] at c2
      refine k ((m2.hidAs m1.hid).snoc D) (S2 ++ [.lst accD]) H2 _ _ (e1.trans (Ext.toStore (l := m1.hid) ec2 hD)) (sr2.toStore hh2 nD hD2 ra2) ?_ c2
      rw [sr2.len]
      exact rep_obj (m := m2.hidAs m1.hid)
end
section
variable {G : Gr} {X : Cx} {W : WX} {elt tg iter tg1 iter1 : Expr} {ifs ifs1 : List Expr} {scope : Scope} {pos pos' spos : Pos} {t t1 : Tg} {ft ft1 : FG Bool} {fe : F} {fi fi1 : FG Its'}
theorem xlc2 (mu : Bool) (own : List (Str × Nat)) (vs1 : List Nat) (nd : X.N.Nodup) (hi : PI X tg iter (tI G W fi)) (hg : GOkF G (BX X scope) tg t) (hts : ∀ b, PTs (BX X scope b) ifs (tT G W0 ft)) (hi1 : ∀ b, PI (BX X scope b) tg1 iter1 (tI G W0 fi1)) (hg1 : GOkF G (BX X scope) tg1 t1) (hts1 : ∀ b, PTs (BX X scope b) ifs1 (tT G W0 ft1)) (hel : ∀ b, PE (BX X scope b) elt (tE G W0 fe)) (hc : X.calm = true := by rfl)
    (ok : blkC X.N X.env.scope scope own = true := by kernel_rfl) (hs : ∀ x, foldedSetIterable iter X.env x = pure x := by intros; kernel_rfl) (hs1 : ∀ env x, foldedSetIterable iter1 env x = pure x := by intros; rfl) (hvs : ∀ i ∈ slotsT t, i ∈ own.map (·.2) := by decide) (hvs1 : ∀ i ∈ slotsT t1, i ∈ vs1 := by decide) (hv : ∀ i ∈ vs1, i ∈ own.map (·.2) := by decide) :
    PE X (.ListComp elt [⟨tg, iter, ifs, 0⟩, ⟨tg1, iter1, ifs1, 0⟩] scope pos) (tE G W (comp2F mu fi t ft fi1 t1 ft1 fe (own.map (·.2)) vs1)) := by
  obtain ⟨g, p, kg⟩ := hg
  obtain ⟨g1, p1, kg1⟩ := hg1
  exact PE.imp (pe_lc2 hc nd hi (blkOk_by ok) hv (fun s H C cl fp => p (s, H, C, cl, fp)) (fun s H C cl fp => hts (s, H, C, cl, fp)) (fun s H C cl fp => hi1 (s, H, C, cl, fp)) (fun s H C cl fp => p1 (s, H, C, cl, fp)) (fun s H C cl fp => hts1 (s, H, C, cl, fp)) (fun s H C cl fp => hel (s, H, C, cl, fp)) hs hs1) fun σ H Q h => tLc2_imp hvs hvs1 kg kg1 h
end
end Dx

set_option Elab.async false
set_option linter.all false
set_option maxRecDepth 100000
set_option maxHeartbeats 4000000
/-! DX: the module's defs as values; calls of a name that holds one. -/
namespace Dx
open PySem PySem.Spec PyProof.Rows L2
def vcallE (tb : List (Str × Ct)) (i : Nat) (fl : FG (List D)) : F := fun τ S Q E => match τ[i]? with
  | some (some (.gl y)) => (match tb.lookup y with
    | some c => callE c fl τ S Q E
    | none => False)
  | _ => False
/-- the defs that may be held -/
def VTab (P : Program) (w : World) (G : Gr) (base : Heap) (k : Nat) (tb : List (Str × Ct)) : Prop := ∀ y c, tb.lookup y = some c → ∃ ps j, Has P w G base y ps j c ∧ Ct.sized c ps.length ∧ j ≤ k
theorem VTab.nil {P : Program} {w : World} {G : Gr} {base : Heap} {k : Nat} : VTab P w G base k [] := fun y c h => by cases h
theorem VTab.cons {P : Program} {w : World} {G : Gr} {base : Heap} {k j : Nat} {tb : List (Str × Ct)} {x : Str} {c : Ct} {ps : List Str} (h : Has P w G base x ps j c) (hs : Ct.sized c ps.length) (hj : j ≤ k) (t : VTab P w G base k tb) : VTab P w G base k ((x, c) :: tb) := fun y d e => by
  by_cases z : y = x
  · subst z
    rw [List.lookup_cons, beq_self_eq_true] at e
    cases e
    exact ⟨ps, j, h, hs, hj⟩
  · rw [List.lookup_cons, beq_eq_false_iff_ne.mpr z] at e
    exact t y d e
theorem VTab.mono {P : Program} {w : World} {G : Gr} {base : Heap} {j k : Nat} {tb : List (Str × Ct)} (T : VTab P w G base j tb) (h : j ≤ k) : VTab P w G base k tb := fun y c e =>
  let ⟨ps, i, a, b, d⟩ := T y c e
  ⟨ps, i, a, b, Nat.le_trans d h⟩
section
variable {G : Gr} {X : Cx} {W : WX} {k : Nat} {x : Str} {p pos : Pos} {e : Expr} {es : List Expr} {fl : FG (List D)}
theorem xgl {f : Addr} (hm : G.mg x = some (.ref f)) (hM : X.mg = G.mg := by rfl) (hg : Gl X x := by unfold Gl; kernel_rfl) (hdb : (x == ("__debug__" : Str)) = false := by kernel_rfl) : PE X (.Name x pos) (tE G W (retF (.gl x))) :=
  e_const (v := .ref f) (pe_glob hg (by rw [hM]; exact hm) rfl hdb) fun m H => .gl hm
theorem xvcall {kt : Nat} {tb : List (Str × Ct)} (i : Nat) (T0 : VTab X.prog X.w G X.base kt tb) (hr : Room k X.A) (hkt : kt ≤ k) (tk : Takes X W) (ha : PA X (e :: es) (tA G W fl)) (hN : X.N[i]? = some x := by kernel_rfl) (hv : visB X.env.scope x = true := by kernel_rfl) (hK : X.K = G.K := by rfl) (hM : X.mg = G.mg := by rfl)
    (hdb : (x == ("__debug__" : Str)) = false := by kernel_rfl) (hcd : (x == ("__classdict__" : Str)) = false := by kernel_rfl) (he : starEach (e :: es) X.env = (false, eval e X.env) :: starEach es X.env := by kernel_rfl) (hpl : (backTo pos (starEach es X.env)).any (·.1) = false := by kernel_rfl) :
    PE X (.Call (.Name x p) (e :: es) [] pos) (tE G W (vcallE tb i fl)) := by
  have T := T0.mono hkt
  refine ⟨fun pins s σ H Q I ⟨τ, m, S, QD, QE, sr, er, hf, kk, px⟩ => ?_⟩
  unfold vcallE at hf
  split at hf
  · rename_i y hy
    split at hf
    · rename_i c hc
      obtain ⟨ps, j, hh, sz, hj⟩ := T y c hc
      obtain ⟨f, fd, F, hm, kp, b, _⟩ := hh.mono hj
      rw [← hK, ← hM] at F
      have kp' : PySem.W.keepIn X.K (.ref f) = true := by rw [hK]; exact kp
      obtain ⟨v, hs, rv⟩ := er.2 i _ hy
      have ev : v = .ref f := by
        cases rv with
        | gl z => rw [hm] at z; cases z; rfl
      subst ev
      have q' := (show At G (rV G) W (callE c fl) τ m S σ H Q from ⟨QD, QE, sr, er, hf, kk, px⟩).seq (g := fun ds => callC c ds) (R := fun vs H1 => spD G ps.length c vs H1 Q (WE W σ)) fun m1 S1 H1 vs ds e1 sr1 r1 ⟨QD, QE, sr, er, hf, kk, px⟩ => ⟨m1, S1, ds, QD, QE, sr, r1, sz ds S1 QD QE hf, hf, kk, fun m' S' H' cls dd x e sr' rx q => px m' S' H' cls dd x e sr' rx q⟩
      refine wpAny_Call_Name_kw (thn ((pe_var (pos := p) hN (visB_ok hv) hdb hcd).run pins s σ H (fun v H1 => v = .ref f ∧ H1 = H) I ⟨.ref f, hs, rfl, rfl⟩) fun u s1 ⟨v, H1, I1, r1, q1⟩ => ?_)
      obtain ⟨rfl, rfl⟩ := q1
      cases r1
      refine PySem.W.callWith_K (h₀ := X.base) I.ok.mod.kin kp' (thn (ha.run pos pins s1 σ _ _ I1 ⟨τ, m, S, q'⟩) fun us t ⟨vs, H2, I2, r, z⟩ => ⟨I2.kIn, ?_⟩) he hpl
      have hl : us.length = ps.length := by rw [← r.length]; exact F.len _ _ _ _ z
      refine wpAny_call (codeAny_mono (F.run X.A X.stack t H2 ⟨us, []⟩ us vs Q _ hr I2.env0 (b t us hl) r z) fun rs t' zz => ?_)
      cases rs with
      | error e => exact passAt tk σ pins H2 t e t' I2 zz
      | ok fl =>
        cases fl with
        | ret u => exact I2.after zz
        | next => cases zz
        | brk => cases zz
        | cont => cases zz
    · exact hf.elim
  · exact hf.elim
end
end Dx

set_option Elab.async false
set_option linter.all false
set_option maxRecDepth 100000
set_option maxHeartbeats 0
namespace LawX
open PySem PySem.Spec PyProof.Rows L2 Dx
def top (i : Nat) : Stmt := PySem.Challenge.pw_nearplain_k09_whole_images_of_stretches.main.body.getD i (.Pass ⟨0, 0, 0, 0⟩)

abbrev st_law_cup : Stmt := top 52
abbrev N_law_cup : List Str := ["script", "cell"]
abbrev P_law_cup : List Str := ["script"]
theorem sc_law_cup : FnScope N_law_cup P_law_cup (defScope st_law_cup) := ⟨by kernel_rfl, by kernel_rfl, by kernel_rfl, by decide +kernel, by kernel_rfl, by decide +kernel, by decide +kernel⟩
def fs_law_cup : FS :=
  (seqS (setS 1 (biE absB (consF (idxE (binE (addF false) (biE (lstB false) (consF (varF 0) nilF)) (lstE false (consF (int! 0) nilF))) (int! 0)) nilF)))
    (retS (lstE true (consF (iteV (cmpT geG (varF 1) (binE powG (int! 10) (int! 18))) (binE fdivG (varF 1) (int! 83)) (int! 0)) (consF (binE (addF false) (binE modG (biE intB (consF (binE (addF false) (binE (mulF false) (varF 1) (int! 307)) (int! 2707)) nilF)) (int! 2077503121)) (int! 181)) nilF)))))
theorem body_law_cup {P : Program} {w : World} {G : Gr} {base : Heap} {f : Addr} {cdv : Value} {A : Around} {outer : List PySem.Env} {s : Shared} {H : Hp} {E : XK} {k  : Nat}   (b_list : G.mg "list" = none) (b_abs : G.mg "abs" = none) (b_int : G.mg "int" = none)  
    (hr : Room k (FX P w G base N_law_cup "_law_cup" st_law_cup f (cdv) A outer s H E).A) : PSs (FX P w G base N_law_cup "_law_cup" st_law_cup f (cdv) A outer s H E) (defBody st_law_cup) (tS G (WEx E) (fs_law_cup )) := by
  exact (ss_cons (sset 1 sc_law_cup.nd (xcB bf_abs b_abs (xcons (xix (xbin (oadd false) (xcT (bf_lst rfl false) b_list (xcons (xv 0) xnil)) (xlst false (xcons xi xnil))) xi) xnil)))
    (ss_one (s_ret (xlst true (xcons (xife (tcmp oge bl_ge (xv 1) (xbin opow xi xi)) (xbin ofdiv (xv 1) xi) xi) (xcons (xbin (oadd false) (xbin omod (xcT bf_int b_int (xcons (xbin (oadd false) (xbin (omul false) (xv 1) xi) xi) xnil)) xi) xi) xnil))))))
abbrev stis_less : Stmt := top 21
abbrev Nis_less : List Str := ["one", "other"]
abbrev Pis_less : List Str := ["one", "other"]
theorem scis_less : FnScope Nis_less Pis_less (defScope stis_less) := ⟨by kernel_rfl, by kernel_rfl, by kernel_rfl, by decide +kernel, by kernel_rfl, by decide +kernel, by decide +kernel⟩
def fsis_less : FS :=
  (retS (binE ltG (binE (mulF false) (idxE (varF 0) (int! 0)) (idxE (varF 1) (int! 1))) (binE (mulF false) (idxE (varF 1) (int! 0)) (idxE (varF 0) (int! 1)))))
theorem bodyis_less {P : Program} {w : World} {G : Gr} {base : Heap} {f : Addr} {cdv : Value} {A : Around} {outer : List PySem.Env} {s : Shared} {H : Hp} {E : XK} {k  : Nat}     
    (hr : Room k (FX P w G base Nis_less "is_less" stis_less f (cdv) A outer s H E).A) : PSs (FX P w G base Nis_less "is_less" stis_less f (cdv) A outer s H E) (defBody stis_less) (tS G (WEx E) (fsis_less )) := by
  exact (ss_one (s_ret (xcmp olt (xbin (omul false) (xix (xv 0) xi) (xix (xv 1) xi)) (xbin (omul false) (xix (xv 1) xi) (xix (xv 0) xi)))))
abbrev stis_tuple_of : Stmt := top 10
abbrev Nis_tuple_of : List Str := ["value", "low", "high"]
abbrev Pis_tuple_of : List Str := ["value", "low", "high"]
theorem scis_tuple_of : FnScope Nis_tuple_of Pis_tuple_of (defScope stis_tuple_of) := ⟨by kernel_rfl, by kernel_rfl, by kernel_rfl, by decide +kernel, by kernel_rfl, by decide +kernel, by decide +kernel⟩
def fsis_tuple_of : FS :=
  (retS (andV (biE isiB (consF (varF 0) (consF (ty! "tuple") nilF))) (chF leG leG (varF 1) (biE lenB (consF (varF 0) nilF)) (varF 2))))
theorem bodyis_tuple_of {P : Program} {w : World} {G : Gr} {base : Heap} {f : Addr} {cdv : Value} {A : Around} {outer : List PySem.Env} {s : Shared} {H : Hp} {E : XK} {k  : Nat}   (b_tuple : G.mg "tuple" = none) (b_isinstance : G.mg "isinstance" = none) (b_len : G.mg "len" = none)  
    (hr : Room k (FX P w G base Nis_tuple_of "is_tuple_of" stis_tuple_of f (cdv) A outer s H E).A) : PSs (FX P w G base Nis_tuple_of "is_tuple_of" stis_tuple_of f (cdv) A outer s H E) (defBody stis_tuple_of) (tS G (WEx E) (fsis_tuple_of )) := by
  exact (ss_one (s_ret (xand (xcB (bf_isi rfl) b_isinstance (xcons (xv 0) (xcons (xty b_tuple) xnil))) (xone (xch ole ole (xv 1) (xcB (bf_len rfl) b_len (xcons (xv 0) xnil)) (xv 2))))))
abbrev stis_integer : Stmt := top 9
abbrev Nis_integer : List Str := ["value"]
abbrev Pis_integer : List Str := ["value"]
theorem scis_integer : FnScope Nis_integer Pis_integer (defScope stis_integer) := ⟨by kernel_rfl, by kernel_rfl, by kernel_rfl, by decide +kernel, by kernel_rfl, by decide +kernel, by decide +kernel⟩
def fsis_integer : FS :=
  (retS (andV (biE isiB (consF (varF 0) (consF (ty! "int") nilF))) (notV (biE isiB (consF (varF 0) (consF (ty! "bool") nilF))))))
theorem bodyis_integer {P : Program} {w : World} {G : Gr} {base : Heap} {f : Addr} {cdv : Value} {A : Around} {outer : List PySem.Env} {s : Shared} {H : Hp} {E : XK} {k  : Nat}   (b_int : G.mg "int" = none) (b_isinstance : G.mg "isinstance" = none) (b_bool : G.mg "bool" = none)  
    (hr : Room k (FX P w G base Nis_integer "is_integer" stis_integer f (cdv) A outer s H E).A) : PSs (FX P w G base Nis_integer "is_integer" stis_integer f (cdv) A outer s H E) (defBody stis_integer) (tS G (WEx E) (fsis_integer )) := by
  exact (ss_one (s_ret (xand (xcB (bf_isi rfl) b_isinstance (xcons (xv 0) (xcons (xty b_int) xnil))) (xone (xnot (xcB (bf_isi rfl) b_isinstance (xcons (xv 0) (xcons (xty b_bool) xnil))))))))
abbrev stfits_any : Stmt := top 15
abbrev Nfits_any : List Str := ["value"]
abbrev Pfits_any : List Str := ["value"]
theorem scfits_any : FnScope Nfits_any Pfits_any (defScope stfits_any) := ⟨by kernel_rfl, by kernel_rfl, by kernel_rfl, by decide +kernel, by kernel_rfl, by decide +kernel, by decide +kernel⟩
def fsfits_any (cis_tuple_of cis_integer : Ct) : FS :=
  (seqS (ifS (orF (notF (truT (callE cis_tuple_of (consF (varF 0) (consF (int! 2) (consF (int! 2) nilF)))))) (orF (notF (truT (callE cis_integer (consF (idxE (varF 0) (int! 0)) nilF)))) (notF (truT (callE cis_integer (consF (idxE (varF 0) (int! 1)) nilF)))))) (retS (bl! false)) nilS)
    (retS (andV (binE gtG (idxE (varF 0) (int! 1)) (int! 0)) (binE eqG (biE gcdB (consF (idxE (varF 0) (int! 0)) (consF (idxE (varF 0) (int! 1)) nilF))) (int! 1)))))
theorem bodyfits_any {P : Program} {w : World} {G : Gr} {base : Heap} {f : Addr} {cdv : Value} {A : Around} {outer : List PySem.Env} {s : Shared} {H : Hp} {E : XK} {k kis_tuple_of kis_integer : Nat} {cis_tuple_of cis_integer : Ct}  (f_gcd : G.mg "gcd" = some (.builtin "math.gcd")) (his_tuple_of : Has P w G base "is_tuple_of" Pis_tuple_of kis_tuple_of cis_tuple_of) (sis_tuple_of : Ct.sized cis_tuple_of Pis_tuple_of.length) (lis_tuple_of : kis_tuple_of ≤ k) (his_integer : Has P w G base "is_integer" Pis_integer kis_integer cis_integer) (sis_integer : Ct.sized cis_integer Pis_integer.length) (lis_integer : kis_integer ≤ k) 
    (hr : Room k (FX P w G base Nfits_any "fits_any" stfits_any f (cdv) A outer s H E).A) : PSs (FX P w G base Nfits_any "fits_any" stfits_any f (cdv) A outer s H E) (defBody stfits_any) (tS G (WEx E) (fsfits_any cis_tuple_of cis_integer)) := by
  exact (ss_cons (s_if (PW.pt (wo (tnot (tt (xfn his_tuple_of sis_tuple_of hr (by omega) tkF (xcons (xv 0) (xcons xi (xcons xi xnil)))))) (wo (tnot (tt (xfn his_integer sis_integer hr (by omega) tkF (xcons (xix (xv 0) xi) xnil)))) (wo1 (tnot (tt (xfn his_integer sis_integer hr (by omega) tkF (xcons (xix (xv 0) xi) xnil)))))))) (ss_one (s_ret xb)) ss_nil)
    (ss_one (s_ret (xand (xcmp ogt (xix (xv 0) xi) xi) (xone (xcmp (oeq hr) (xcF bf_gcd f_gcd (xcons (xix (xv 0) xi) (xcons (xix (xv 0) xi) xnil))) xi))))))
abbrev stfits_stretch : Stmt := top 24
abbrev Nfits_stretch : List Str := ["value"]
abbrev Pfits_stretch : List Str := ["value"]
theorem scfits_stretch : FnScope Nfits_stretch Pfits_stretch (defScope stfits_stretch) := ⟨by kernel_rfl, by kernel_rfl, by kernel_rfl, by decide +kernel, by kernel_rfl, by decide +kernel, by decide +kernel⟩
def fsfits_stretch (cis_tuple_of cfits_any cis_less : Ct) : FS :=
  (seqS (ifS (orF (notF (truT (callE cis_tuple_of (consF (varF 0) (consF (int! 2) (consF (int! 2) nilF)))))) (orF (notF (truT (callE cfits_any (consF (idxE (varF 0) (int! 0)) nilF)))) (notF (truT (callE cfits_any (consF (idxE (varF 0) (int! 1)) nilF)))))) (retS (bl! false)) nilS)
    (retS (notV (callE cis_less (consF (idxE (varF 0) (int! 1)) (consF (idxE (varF 0) (int! 0)) nilF))))))
theorem bodyfits_stretch {P : Program} {w : World} {G : Gr} {base : Heap} {f : Addr} {cdv : Value} {A : Around} {outer : List PySem.Env} {s : Shared} {H : Hp} {E : XK} {k kis_tuple_of kfits_any kis_less : Nat} {cis_tuple_of cfits_any cis_less : Ct}   (his_tuple_of : Has P w G base "is_tuple_of" Pis_tuple_of kis_tuple_of cis_tuple_of) (sis_tuple_of : Ct.sized cis_tuple_of Pis_tuple_of.length) (lis_tuple_of : kis_tuple_of ≤ k) (hfits_any : Has P w G base "fits_any" Pfits_any kfits_any cfits_any) (sfits_any : Ct.sized cfits_any Pfits_any.length) (lfits_any : kfits_any ≤ k) (his_less : Has P w G base "is_less" Pis_less kis_less cis_less) (sis_less : Ct.sized cis_less Pis_less.length) (lis_less : kis_less ≤ k) 
    (hr : Room k (FX P w G base Nfits_stretch "fits_stretch" stfits_stretch f (cdv) A outer s H E).A) : PSs (FX P w G base Nfits_stretch "fits_stretch" stfits_stretch f (cdv) A outer s H E) (defBody stfits_stretch) (tS G (WEx E) (fsfits_stretch cis_tuple_of cfits_any cis_less)) := by
  exact (ss_cons (s_if (PW.pt (wo (tnot (tt (xfn his_tuple_of sis_tuple_of hr (by omega) tkF (xcons (xv 0) (xcons xi (xcons xi xnil)))))) (wo (tnot (tt (xfn hfits_any sfits_any hr (by omega) tkF (xcons (xix (xv 0) xi) xnil)))) (wo1 (tnot (tt (xfn hfits_any sfits_any hr (by omega) tkF (xcons (xix (xv 0) xi) xnil)))))))) (ss_one (s_ret xb)) ss_nil)
    (ss_one (s_ret (xnot (xfn his_less sis_less hr (by omega) tkF (xcons (xix (xv 0) xi) (xcons (xix (xv 0) xi) xnil)))))))
abbrev stneed_stretch : Stmt := top 26
abbrev Nneed_stretch : List Str := ["value"]
abbrev Pneed_stretch : List Str := ["value"]
theorem scneed_stretch : FnScope Nneed_stretch Pneed_stretch (defScope stneed_stretch) := ⟨by kernel_rfl, by kernel_rfl, by kernel_rfl, by decide +kernel, by kernel_rfl, by decide +kernel, by decide +kernel⟩
def fsneed_stretch (cfits_stretch : Ct) : FS :=
  (ifS (notF (truT (callE cfits_stretch (consF (varF 0) nilF)))) (raiseS "InvalidStretch") nilS)
theorem bodyneed_stretch {P : Program} {w : World} {G : Gr} {base : Heap} {f : Addr} {cdv : Value} {A : Around} {outer : List PySem.Env} {s : Shared} {H : Hp} {E : XK} {k kfits_stretch : Nat} {cfits_stretch : Ct}  (x_InvalidStretch : ExcK G "InvalidStretch") (hfits_stretch : Has P w G base "fits_stretch" Pfits_stretch kfits_stretch cfits_stretch) (sfits_stretch : Ct.sized cfits_stretch Pfits_stretch.length) (lfits_stretch : kfits_stretch ≤ k) 
    (hr : Room k (FX P w G base Nneed_stretch "need_stretch" stneed_stretch f (cdv) A outer s H E).A) : PSs (FX P w G base Nneed_stretch "need_stretch" stneed_stretch f (cdv) A outer s H E) (defBody stneed_stretch) (tS G (WEx E) (fsneed_stretch cfits_stretch)) := by
  exact (ss_one (s_if (tnot (tt (xfn hfits_stretch sfits_stretch hr (by omega) tkF (xcons (xv 0) xnil)))) (ss_one (sraise x_InvalidStretch tkF)) ss_nil))
abbrev stneed_two : Stmt := top 41
abbrev Nneed_two : List Str := ["one", "other"]
abbrev Pneed_two : List Str := ["one", "other"]
theorem scneed_two : FnScope Nneed_two Pneed_two (defScope stneed_two) := ⟨by kernel_rfl, by kernel_rfl, by kernel_rfl, by decide +kernel, by kernel_rfl, by decide +kernel, by decide +kernel⟩
def fsneed_two (cneed_stretch : Ct) : FS :=
  (seqS (exprS (callE cneed_stretch (consF (varF 0) nilF)))
    (exprS (callE cneed_stretch (consF (varF 1) nilF))))
theorem bodyneed_two {P : Program} {w : World} {G : Gr} {base : Heap} {f : Addr} {cdv : Value} {A : Around} {outer : List PySem.Env} {s : Shared} {H : Hp} {E : XK} {k kneed_stretch : Nat} {cneed_stretch : Ct}   (hneed_stretch : Has P w G base "need_stretch" Pneed_stretch kneed_stretch cneed_stretch) (sneed_stretch : Ct.sized cneed_stretch Pneed_stretch.length) (lneed_stretch : kneed_stretch ≤ k) 
    (hr : Room k (FX P w G base Nneed_two "need_two" stneed_two f (cdv) A outer s H E).A) : PSs (FX P w G base Nneed_two "need_two" stneed_two f (cdv) A outer s H E) (defBody stneed_two) (tS G (WEx E) (fsneed_two cneed_stretch)) := by
  exact (ss_cons (sexpr (xfn hneed_stretch sneed_stretch hr (by omega) tkF (xcons (xv 0) xnil)))
    (ss_one (sexpr (xfn hneed_stretch sneed_stretch hr (by omega) tkF (xcons (xv 1) xnil)))))
abbrev stmade : Stmt := top 14
abbrev Nmade : List Str := ["over", "under", "common"]
abbrev Pmade : List Str := ["over", "under"]
theorem scmade : FnScope Nmade Pmade (defScope stmade) := ⟨by kernel_rfl, by kernel_rfl, by kernel_rfl, by decide +kernel, by kernel_rfl, by decide +kernel, by decide +kernel⟩
def fsmade : FS :=
  (seqS (setS 2 (biE gcdB (consF (varF 0) (consF (varF 1) nilF))))
    (seqS (setS 2 (iteV (cmpT gtG (varF 1) (int! 0)) (varF 2) (negE (varF 2))))
    (retS (tupE (consF (binE fdivG (varF 0) (varF 2)) (consF (binE fdivG (varF 1) (varF 2)) nilF))))))
theorem bodymade {P : Program} {w : World} {G : Gr} {base : Heap} {f : Addr} {cdv : Value} {A : Around} {outer : List PySem.Env} {s : Shared} {H : Hp} {E : XK} {k  : Nat}   (f_gcd : G.mg "gcd" = some (.builtin "math.gcd"))  
    (hr : Room k (FX P w G base Nmade "made" stmade f (cdv) A outer s H E).A) : PSs (FX P w G base Nmade "made" stmade f (cdv) A outer s H E) (defBody stmade) (tS G (WEx E) (fsmade )) := by
  exact (ss_cons (sset 2 scmade.nd (xcF bf_gcd f_gcd (xcons (xv 0) (xcons (xv 1) xnil))))
    (ss_cons (sset 2 scmade.nd (xife (tcmp ogt bl_gt (xv 1) xi) (xv 2) (xneg (xv 2))))
    (ss_one (s_ret (xtup (xcons (xbin ofdiv (xv 0) (xv 2)) (xcons (xbin ofdiv (xv 1) (xv 2)) xnil)))))))
abbrev stplus : Stmt := top 16
abbrev Nplus : List Str := ["one", "other"]
abbrev Pplus : List Str := ["one", "other"]
theorem scplus : FnScope Nplus Pplus (defScope stplus) := ⟨by kernel_rfl, by kernel_rfl, by kernel_rfl, by decide +kernel, by kernel_rfl, by decide +kernel, by decide +kernel⟩
def fsplus (cmade : Ct) : FS :=
  (retS (callE cmade (consF (binE (addF false) (binE (mulF false) (idxE (varF 0) (int! 0)) (idxE (varF 1) (int! 1))) (binE (mulF false) (idxE (varF 1) (int! 0)) (idxE (varF 0) (int! 1)))) (consF (binE (mulF false) (idxE (varF 0) (int! 1)) (idxE (varF 1) (int! 1))) nilF))))
theorem bodyplus {P : Program} {w : World} {G : Gr} {base : Heap} {f : Addr} {cdv : Value} {A : Around} {outer : List PySem.Env} {s : Shared} {H : Hp} {E : XK} {k kmade : Nat} {cmade : Ct}   (hmade : Has P w G base "made" Pmade kmade cmade) (smade : Ct.sized cmade Pmade.length) (lmade : kmade ≤ k) 
    (hr : Room k (FX P w G base Nplus "plus" stplus f (cdv) A outer s H E).A) : PSs (FX P w G base Nplus "plus" stplus f (cdv) A outer s H E) (defBody stplus) (tS G (WEx E) (fsplus cmade)) := by
  exact (ss_one (s_ret (xfn hmade smade hr (by omega) tkF (xcons (xbin (oadd false) (xbin (omul false) (xix (xv 0) xi) (xix (xv 1) xi)) (xbin (omul false) (xix (xv 1) xi) (xix (xv 0) xi))) (xcons (xbin (omul false) (xix (xv 0) xi) (xix (xv 1) xi)) xnil)))))
abbrev stsum_by : Stmt := top 31
abbrev Nsum_by : List Str := ["one", "other"]
abbrev Psum_by : List Str := ["one", "other"]
theorem scsum_by : FnScope Nsum_by Psum_by (defScope stsum_by) := ⟨by kernel_rfl, by kernel_rfl, by kernel_rfl, by decide +kernel, by kernel_rfl, by decide +kernel, by decide +kernel⟩
def fssum_by (cplus : Ct) : FS :=
  (retS (tupE (consF (callE cplus (consF (idxE (varF 0) (int! 0)) (consF (idxE (varF 1) (int! 0)) nilF))) (consF (callE cplus (consF (idxE (varF 0) (int! 1)) (consF (idxE (varF 1) (int! 1)) nilF))) nilF))))
theorem bodysum_by {P : Program} {w : World} {G : Gr} {base : Heap} {f : Addr} {cdv : Value} {A : Around} {outer : List PySem.Env} {s : Shared} {H : Hp} {E : XK} {k kplus : Nat} {cplus : Ct}   (hplus : Has P w G base "plus" Pplus kplus cplus) (splus : Ct.sized cplus Pplus.length) (lplus : kplus ≤ k) 
    (hr : Room k (FX P w G base Nsum_by "sum_by" stsum_by f (cdv) A outer s H E).A) : PSs (FX P w G base Nsum_by "sum_by" stsum_by f (cdv) A outer s H E) (defBody stsum_by) (tS G (WEx E) (fssum_by cplus)) := by
  exact (ss_one (s_ret (xtup (xcons (xfn hplus splus hr (by omega) tkF (xcons (xix (xv 0) xi) (xcons (xix (xv 1) xi) xnil))) (xcons (xfn hplus splus hr (by omega) tkF (xcons (xix (xv 0) xi) (xcons (xix (xv 1) xi) xnil))) xnil)))))
abbrev stsum_of : Stmt := top 42
abbrev Nsum_of : List Str := ["one", "other"]
abbrev Psum_of : List Str := ["one", "other"]
theorem scsum_of : FnScope Nsum_of Psum_of (defScope stsum_of) := ⟨by kernel_rfl, by kernel_rfl, by kernel_rfl, by decide +kernel, by kernel_rfl, by decide +kernel, by decide +kernel⟩
def fssum_of (cneed_two csum_by : Ct) : FS :=
  (seqS (exprS (callE cneed_two (consF (varF 0) (consF (varF 1) nilF))))
    (retS (callE csum_by (consF (varF 0) (consF (varF 1) nilF)))))
theorem bodysum_of {P : Program} {w : World} {G : Gr} {base : Heap} {f : Addr} {cdv : Value} {A : Around} {outer : List PySem.Env} {s : Shared} {H : Hp} {E : XK} {k kneed_two ksum_by : Nat} {cneed_two csum_by : Ct}   (hneed_two : Has P w G base "need_two" Pneed_two kneed_two cneed_two) (sneed_two : Ct.sized cneed_two Pneed_two.length) (lneed_two : kneed_two ≤ k) (hsum_by : Has P w G base "sum_by" Psum_by ksum_by csum_by) (ssum_by : Ct.sized csum_by Psum_by.length) (lsum_by : ksum_by ≤ k) 
    (hr : Room k (FX P w G base Nsum_of "sum_of" stsum_of f (cdv) A outer s H E).A) : PSs (FX P w G base Nsum_of "sum_of" stsum_of f (cdv) A outer s H E) (defBody stsum_of) (tS G (WEx E) (fssum_of cneed_two csum_by)) := by
  exact (ss_cons (sexpr (xfn hneed_two sneed_two hr (by omega) tkF (xcons (xv 0) (xcons (xv 1) xnil))))
    (ss_one (s_ret (xfn hsum_by ssum_by hr (by omega) tkF (xcons (xv 0) (xcons (xv 1) xnil))))))
abbrev stminus : Stmt := top 17
abbrev Nminus : List Str := ["one"]
abbrev Pminus : List Str := ["one"]
theorem scminus : FnScope Nminus Pminus (defScope stminus) := ⟨by kernel_rfl, by kernel_rfl, by kernel_rfl, by decide +kernel, by kernel_rfl, by decide +kernel, by decide +kernel⟩
def fsminus : FS :=
  (retS (tupE (consF (negE (idxE (varF 0) (int! 0))) (consF (idxE (varF 0) (int! 1)) nilF))))
theorem bodyminus {P : Program} {w : World} {G : Gr} {base : Heap} {f : Addr} {cdv : Value} {A : Around} {outer : List PySem.Env} {s : Shared} {H : Hp} {E : XK} {k  : Nat}     
    (hr : Room k (FX P w G base Nminus "minus" stminus f (cdv) A outer s H E).A) : PSs (FX P w G base Nminus "minus" stminus f (cdv) A outer s H E) (defBody stminus) (tS G (WEx E) (fsminus )) := by
  exact (ss_one (s_ret (xtup (xcons (xneg (xix (xv 0) xi)) (xcons (xix (xv 0) xi) xnil)))))
abbrev stless : Stmt := top 18
abbrev Nless : List Str := ["one", "other"]
abbrev Pless : List Str := ["one", "other"]
theorem scless : FnScope Nless Pless (defScope stless) := ⟨by kernel_rfl, by kernel_rfl, by kernel_rfl, by decide +kernel, by kernel_rfl, by decide +kernel, by decide +kernel⟩
def fsless (cplus cminus : Ct) : FS :=
  (retS (callE cplus (consF (varF 0) (consF (callE cminus (consF (varF 1) nilF)) nilF))))
theorem bodyless {P : Program} {w : World} {G : Gr} {base : Heap} {f : Addr} {cdv : Value} {A : Around} {outer : List PySem.Env} {s : Shared} {H : Hp} {E : XK} {k kplus kminus : Nat} {cplus cminus : Ct}   (hplus : Has P w G base "plus" Pplus kplus cplus) (splus : Ct.sized cplus Pplus.length) (lplus : kplus ≤ k) (hminus : Has P w G base "minus" Pminus kminus cminus) (sminus : Ct.sized cminus Pminus.length) (lminus : kminus ≤ k) 
    (hr : Room k (FX P w G base Nless "less" stless f (cdv) A outer s H E).A) : PSs (FX P w G base Nless "less" stless f (cdv) A outer s H E) (defBody stless) (tS G (WEx E) (fsless cplus cminus)) := by
  exact (ss_one (s_ret (xfn hplus splus hr (by omega) tkF (xcons (xv 0) (xcons (xfn hminus sminus hr (by omega) tkF (xcons (xv 1) xnil)) xnil)))))
abbrev stdifference_by : Stmt := top 33
abbrev Ndifference_by : List Str := ["one", "other"]
abbrev Pdifference_by : List Str := ["one", "other"]
theorem scdifference_by : FnScope Ndifference_by Pdifference_by (defScope stdifference_by) := ⟨by kernel_rfl, by kernel_rfl, by kernel_rfl, by decide +kernel, by kernel_rfl, by decide +kernel, by decide +kernel⟩
def fsdifference_by (cless : Ct) : FS :=
  (retS (tupE (consF (callE cless (consF (idxE (varF 0) (int! 0)) (consF (idxE (varF 1) (int! 1)) nilF))) (consF (callE cless (consF (idxE (varF 0) (int! 1)) (consF (idxE (varF 1) (int! 0)) nilF))) nilF))))
theorem bodydifference_by {P : Program} {w : World} {G : Gr} {base : Heap} {f : Addr} {cdv : Value} {A : Around} {outer : List PySem.Env} {s : Shared} {H : Hp} {E : XK} {k kless : Nat} {cless : Ct}   (hless : Has P w G base "less" Pless kless cless) (sless : Ct.sized cless Pless.length) (lless : kless ≤ k) 
    (hr : Room k (FX P w G base Ndifference_by "difference_by" stdifference_by f (cdv) A outer s H E).A) : PSs (FX P w G base Ndifference_by "difference_by" stdifference_by f (cdv) A outer s H E) (defBody stdifference_by) (tS G (WEx E) (fsdifference_by cless)) := by
  exact (ss_one (s_ret (xtup (xcons (xfn hless sless hr (by omega) tkF (xcons (xix (xv 0) xi) (xcons (xix (xv 1) xi) xnil))) (xcons (xfn hless sless hr (by omega) tkF (xcons (xix (xv 0) xi) (xcons (xix (xv 1) xi) xnil))) xnil)))))
abbrev stdifference_of : Stmt := top 43
abbrev Ndifference_of : List Str := ["one", "other"]
abbrev Pdifference_of : List Str := ["one", "other"]
theorem scdifference_of : FnScope Ndifference_of Pdifference_of (defScope stdifference_of) := ⟨by kernel_rfl, by kernel_rfl, by kernel_rfl, by decide +kernel, by kernel_rfl, by decide +kernel, by decide +kernel⟩
def fsdifference_of (cneed_two cdifference_by : Ct) : FS :=
  (seqS (exprS (callE cneed_two (consF (varF 0) (consF (varF 1) nilF))))
    (retS (callE cdifference_by (consF (varF 0) (consF (varF 1) nilF)))))
theorem bodydifference_of {P : Program} {w : World} {G : Gr} {base : Heap} {f : Addr} {cdv : Value} {A : Around} {outer : List PySem.Env} {s : Shared} {H : Hp} {E : XK} {k kneed_two kdifference_by : Nat} {cneed_two cdifference_by : Ct}   (hneed_two : Has P w G base "need_two" Pneed_two kneed_two cneed_two) (sneed_two : Ct.sized cneed_two Pneed_two.length) (lneed_two : kneed_two ≤ k) (hdifference_by : Has P w G base "difference_by" Pdifference_by kdifference_by cdifference_by) (sdifference_by : Ct.sized cdifference_by Pdifference_by.length) (ldifference_by : kdifference_by ≤ k) 
    (hr : Room k (FX P w G base Ndifference_of "difference_of" stdifference_of f (cdv) A outer s H E).A) : PSs (FX P w G base Ndifference_of "difference_of" stdifference_of f (cdv) A outer s H E) (defBody stdifference_of) (tS G (WEx E) (fsdifference_of cneed_two cdifference_by)) := by
  exact (ss_cons (sexpr (xfn hneed_two sneed_two hr (by omega) tkF (xcons (xv 0) (xcons (xv 1) xnil))))
    (ss_one (s_ret (xfn hdifference_by sdifference_by hr (by omega) tkF (xcons (xv 0) (xcons (xv 1) xnil))))))
abbrev stleast : Stmt := top 22
abbrev Nleast : List Str := ["one", "other"]
abbrev Pleast : List Str := ["one", "other"]
theorem scleast : FnScope Nleast Pleast (defScope stleast) := ⟨by kernel_rfl, by kernel_rfl, by kernel_rfl, by decide +kernel, by kernel_rfl, by decide +kernel, by decide +kernel⟩
def fsleast (cis_less : Ct) : FS :=
  (retS (iteV (truT (callE cis_less (consF (varF 1) (consF (varF 0) nilF)))) (varF 1) (varF 0)))
theorem bodyleast {P : Program} {w : World} {G : Gr} {base : Heap} {f : Addr} {cdv : Value} {A : Around} {outer : List PySem.Env} {s : Shared} {H : Hp} {E : XK} {k kis_less : Nat} {cis_less : Ct}   (his_less : Has P w G base "is_less" Pis_less kis_less cis_less) (sis_less : Ct.sized cis_less Pis_less.length) (lis_less : kis_less ≤ k) 
    (hr : Room k (FX P w G base Nleast "least" stleast f (cdv) A outer s H E).A) : PSs (FX P w G base Nleast "least" stleast f (cdv) A outer s H E) (defBody stleast) (tS G (WEx E) (fsleast cis_less)) := by
  exact (ss_one (s_ret (xife (tt (xfn his_less sis_less hr (by omega) tkF (xcons (xv 1) (xcons (xv 0) xnil)))) (xv 1) (xv 0))))
abbrev stmost : Stmt := top 23
abbrev Nmost : List Str := ["one", "other"]
abbrev Pmost : List Str := ["one", "other"]
theorem scmost : FnScope Nmost Pmost (defScope stmost) := ⟨by kernel_rfl, by kernel_rfl, by kernel_rfl, by decide +kernel, by kernel_rfl, by decide +kernel, by decide +kernel⟩
def fsmost (cis_less : Ct) : FS :=
  (retS (iteV (truT (callE cis_less (consF (varF 0) (consF (varF 1) nilF)))) (varF 1) (varF 0)))
theorem bodymost {P : Program} {w : World} {G : Gr} {base : Heap} {f : Addr} {cdv : Value} {A : Around} {outer : List PySem.Env} {s : Shared} {H : Hp} {E : XK} {k kis_less : Nat} {cis_less : Ct}   (his_less : Has P w G base "is_less" Pis_less kis_less cis_less) (sis_less : Ct.sized cis_less Pis_less.length) (lis_less : kis_less ≤ k) 
    (hr : Room k (FX P w G base Nmost "most" stmost f (cdv) A outer s H E).A) : PSs (FX P w G base Nmost "most" stmost f (cdv) A outer s H E) (defBody stmost) (tS G (WEx E) (fsmost cis_less)) := by
  exact (ss_one (s_ret (xife (tt (xfn his_less sis_less hr (by omega) tkF (xcons (xv 0) (xcons (xv 1) xnil)))) (xv 1) (xv 0))))
abbrev sthull : Stmt := top 30
abbrev Nhull : List Str := ["values", "low", "high", "value"]
abbrev Phull : List Str := ["values"]
theorem schull : FnScope Nhull Phull (defScope sthull) := ⟨by kernel_rfl, by kernel_rfl, by kernel_rfl, by decide +kernel, by kernel_rfl, by decide +kernel, by decide +kernel⟩
def fshull (cmost cleast : Ct) : FS :=
  (seqS (parS 1 2 (consF (idxE (varF 0) (int! 0)) (consF (idxE (varF 0) (int! 0)) nilF)))
    (seqS (forS (itE (slcE false (varF 0) (someI (int! 1)) noF)) (.name 3) (parS 1 2 (consF (callE cleast (consF (varF 1) (consF (varF 3) nilF))) (consF (callE cmost (consF (varF 2) (consF (varF 3) nilF))) nilF))))
    (retS (tupE (consF (varF 1) (consF (varF 2) nilF))))))
theorem bodyhull {P : Program} {w : World} {G : Gr} {base : Heap} {f : Addr} {cdv : Value} {A : Around} {outer : List PySem.Env} {s : Shared} {H : Hp} {E : XK} {k kmost kleast : Nat} {cmost cleast : Ct}   (hmost : Has P w G base "most" Pmost kmost cmost) (smost : Ct.sized cmost Pmost.length) (lmost : kmost ≤ k) (hleast : Has P w G base "least" Pleast kleast cleast) (sleast : Ct.sized cleast Pleast.length) (lleast : kleast ≤ k) 
    (hr : Room k (FX P w G base Nhull "hull" sthull f (cdv) A outer s H E).A) : PSs (FX P w G base Nhull "hull" sthull f (cdv) A outer s H E) (defBody sthull) (tS G (WEx E) (fshull cmost cleast)) := by
  exact (ss_cons (spar 1 2 schull.nd (xcons (xix (xv 0) xi) (xcons (xix (xv 0) xi) xnil)))
    (ss_cons (sfor poF (ival (xsl false (xv 0) (os xi) on)) (gname 3 schull.nd) (ss_one (spar 1 2 schull.nd (xcons (xfn hleast sleast hr (by omega) tkF (xcons (xv 1) (xcons (xv 3) xnil))) (xcons (xfn hmost smost hr (by omega) tkF (xcons (xv 2) (xcons (xv 3) xnil))) xnil)))))
    (ss_one (s_ret (xtup (xcons (xv 1) (xcons (xv 2) xnil)))))))
abbrev sttimes : Stmt := top 19
abbrev Ntimes : List Str := ["one", "other"]
abbrev Ptimes : List Str := ["one", "other"]
theorem sctimes : FnScope Ntimes Ptimes (defScope sttimes) := ⟨by kernel_rfl, by kernel_rfl, by kernel_rfl, by decide +kernel, by kernel_rfl, by decide +kernel, by decide +kernel⟩
def fstimes (cmade : Ct) : FS :=
  (retS (callE cmade (consF (binE (mulF false) (idxE (varF 0) (int! 0)) (idxE (varF 1) (int! 0))) (consF (binE (mulF false) (idxE (varF 0) (int! 1)) (idxE (varF 1) (int! 1))) nilF))))
theorem bodytimes {P : Program} {w : World} {G : Gr} {base : Heap} {f : Addr} {cdv : Value} {A : Around} {outer : List PySem.Env} {s : Shared} {H : Hp} {E : XK} {k kmade : Nat} {cmade : Ct}   (hmade : Has P w G base "made" Pmade kmade cmade) (smade : Ct.sized cmade Pmade.length) (lmade : kmade ≤ k) 
    (hr : Room k (FX P w G base Ntimes "times" sttimes f (cdv) A outer s H E).A) : PSs (FX P w G base Ntimes "times" sttimes f (cdv) A outer s H E) (defBody sttimes) (tS G (WEx E) (fstimes cmade)) := by
  exact (ss_one (s_ret (xfn hmade smade hr (by omega) tkF (xcons (xbin (omul false) (xix (xv 0) xi) (xix (xv 1) xi)) (xcons (xbin (omul false) (xix (xv 0) xi) (xix (xv 1) xi)) xnil)))))
abbrev stproduct_by : Stmt := top 34
abbrev Nproduct_by : List Str := ["one", "other", "left", "right"]
abbrev Pproduct_by : List Str := ["one", "other"]
theorem scproduct_by : FnScope Nproduct_by Pproduct_by (defScope stproduct_by) := ⟨by kernel_rfl, by kernel_rfl, by kernel_rfl, by decide +kernel, by kernel_rfl, by decide +kernel, by decide +kernel⟩
def fsproduct_by (chull ctimes : Ct) : FS :=
  (retS (callE chull (consF (comp2F false (itE (varF 0)) (.name 2) (retF true) (itE (varF 1)) (.name 3) (retF true) (callE ctimes (consF (varF 2) (consF (varF 3) nilF))) ([("left", 2), ("right", 3)].map (·.2)) [3]) nilF)))
theorem bodyproduct_by {P : Program} {w : World} {G : Gr} {base : Heap} {f : Addr} {cdv : Value} {A : Around} {outer : List PySem.Env} {s : Shared} {H : Hp} {E : XK} {k khull ktimes : Nat} {chull ctimes : Ct}   (hhull : Has P w G base "hull" Phull khull chull) (shull : Ct.sized chull Phull.length) (lhull : khull ≤ k) (htimes : Has P w G base "times" Ptimes ktimes ctimes) (stimes : Ct.sized ctimes Ptimes.length) (ltimes : ktimes ≤ k) 
    (hr : Room k (FX P w G base Nproduct_by "product_by" stproduct_by f (cdv) A outer s H E).A) : PSs (FX P w G base Nproduct_by "product_by" stproduct_by f (cdv) A outer s H E) (defBody stproduct_by) (tS G (WEx E) (fsproduct_by chull ctimes)) := by
  exact (ss_one (s_ret (xfn hhull shull hr (by omega) tkF (xcons (xlc2 false [("left", 2), ("right", 3)] [3] scproduct_by.nd (ival (xv 0)) (gnameF 2 (fun _ => scproduct_by.nd)) (fun _ => ts_nil) (fun _ => (ival (xv 1))) (gnameF 3 (fun _ => scproduct_by.nd)) (fun _ => ts_nil) (fun _ => (xfn htimes stimes hr (by omega) LamX.takes0 (xcons (xv 2) (xcons (xv 3) xnil))))) xnil))))
abbrev stproduct_of : Stmt := top 44
abbrev Nproduct_of : List Str := ["one", "other"]
abbrev Pproduct_of : List Str := ["one", "other"]
theorem scproduct_of : FnScope Nproduct_of Pproduct_of (defScope stproduct_of) := ⟨by kernel_rfl, by kernel_rfl, by kernel_rfl, by decide +kernel, by kernel_rfl, by decide +kernel, by decide +kernel⟩
def fsproduct_of (cneed_two cproduct_by : Ct) : FS :=
  (seqS (exprS (callE cneed_two (consF (varF 0) (consF (varF 1) nilF))))
    (retS (callE cproduct_by (consF (varF 0) (consF (varF 1) nilF)))))
theorem bodyproduct_of {P : Program} {w : World} {G : Gr} {base : Heap} {f : Addr} {cdv : Value} {A : Around} {outer : List PySem.Env} {s : Shared} {H : Hp} {E : XK} {k kneed_two kproduct_by : Nat} {cneed_two cproduct_by : Ct}   (hneed_two : Has P w G base "need_two" Pneed_two kneed_two cneed_two) (sneed_two : Ct.sized cneed_two Pneed_two.length) (lneed_two : kneed_two ≤ k) (hproduct_by : Has P w G base "product_by" Pproduct_by kproduct_by cproduct_by) (sproduct_by : Ct.sized cproduct_by Pproduct_by.length) (lproduct_by : kproduct_by ≤ k) 
    (hr : Room k (FX P w G base Nproduct_of "product_of" stproduct_of f (cdv) A outer s H E).A) : PSs (FX P w G base Nproduct_of "product_of" stproduct_of f (cdv) A outer s H E) (defBody stproduct_of) (tS G (WEx E) (fsproduct_of cneed_two cproduct_by)) := by
  exact (ss_cons (sexpr (xfn hneed_two sneed_two hr (by omega) tkF (xcons (xv 0) (xcons (xv 1) xnil))))
    (ss_one (s_ret (xfn hproduct_by sproduct_by hr (by omega) tkF (xcons (xv 0) (xcons (xv 1) xnil))))))
abbrev stis_in : Stmt := top 25
abbrev Nis_in : List Str := ["stretch", "one"]
abbrev Pis_in : List Str := ["stretch", "one"]
theorem scis_in : FnScope Nis_in Pis_in (defScope stis_in) := ⟨by kernel_rfl, by kernel_rfl, by kernel_rfl, by decide +kernel, by kernel_rfl, by decide +kernel, by decide +kernel⟩
def fsis_in (cis_less : Ct) : FS :=
  (retS (andV (notV (callE cis_less (consF (varF 1) (consF (idxE (varF 0) (int! 0)) nilF)))) (notV (callE cis_less (consF (idxE (varF 0) (int! 1)) (consF (varF 1) nilF))))))
theorem bodyis_in {P : Program} {w : World} {G : Gr} {base : Heap} {f : Addr} {cdv : Value} {A : Around} {outer : List PySem.Env} {s : Shared} {H : Hp} {E : XK} {k kis_less : Nat} {cis_less : Ct}   (his_less : Has P w G base "is_less" Pis_less kis_less cis_less) (sis_less : Ct.sized cis_less Pis_less.length) (lis_less : kis_less ≤ k) 
    (hr : Room k (FX P w G base Nis_in "is_in" stis_in f (cdv) A outer s H E).A) : PSs (FX P w G base Nis_in "is_in" stis_in f (cdv) A outer s H E) (defBody stis_in) (tS G (WEx E) (fsis_in cis_less)) := by
  exact (ss_one (s_ret (xand (xnot (xfn his_less sis_less hr (by omega) tkF (xcons (xv 1) (xcons (xix (xv 0) xi) xnil)))) (xone (xnot (xfn his_less sis_less hr (by omega) tkF (xcons (xix (xv 0) xi) (xcons (xv 1) xnil))))))))
abbrev stinverse : Stmt := top 20
abbrev Ninverse : List Str := ["one"]
abbrev Pinverse : List Str := ["one"]
theorem scinverse : FnScope Ninverse Pinverse (defScope stinverse) := ⟨by kernel_rfl, by kernel_rfl, by kernel_rfl, by decide +kernel, by kernel_rfl, by decide +kernel, by decide +kernel⟩
def fsinverse (cmade : Ct) : FS :=
  (retS (callE cmade (consF (idxE (varF 0) (int! 1)) (consF (idxE (varF 0) (int! 0)) nilF))))
theorem bodyinverse {P : Program} {w : World} {G : Gr} {base : Heap} {f : Addr} {cdv : Value} {A : Around} {outer : List PySem.Env} {s : Shared} {H : Hp} {E : XK} {k kmade : Nat} {cmade : Ct}   (hmade : Has P w G base "made" Pmade kmade cmade) (smade : Ct.sized cmade Pmade.length) (lmade : kmade ≤ k) 
    (hr : Room k (FX P w G base Ninverse "inverse" stinverse f (cdv) A outer s H E).A) : PSs (FX P w G base Ninverse "inverse" stinverse f (cdv) A outer s H E) (defBody stinverse) (tS G (WEx E) (fsinverse cmade)) := by
  exact (ss_one (s_ret (xfn hmade smade hr (by omega) tkF (xcons (xix (xv 0) xi) (xcons (xix (xv 0) xi) xnil)))))
abbrev stquotient_by : Stmt := top 35
abbrev Nquotient_by : List Str := ["one", "other"]
abbrev Pquotient_by : List Str := ["one", "other"]
theorem scquotient_by : FnScope Nquotient_by Pquotient_by (defScope stquotient_by) := ⟨by kernel_rfl, by kernel_rfl, by kernel_rfl, by decide +kernel, by kernel_rfl, by decide +kernel, by decide +kernel⟩
def fsquotient_by (cis_in cproduct_by cinverse : Ct) : FS :=
  (seqS (ifS (truT (callE cis_in (consF (varF 1) (consF (tup! [.int 0, .int 1]) nilF)))) (retS non!) nilS)
    (retS (callE cproduct_by (consF (varF 0) (consF (tupE (consF (callE cinverse (consF (idxE (varF 1) (int! 1)) nilF)) (consF (callE cinverse (consF (idxE (varF 1) (int! 0)) nilF)) nilF))) nilF)))))
theorem bodyquotient_by {P : Program} {w : World} {G : Gr} {base : Heap} {f : Addr} {cdv : Value} {A : Around} {outer : List PySem.Env} {s : Shared} {H : Hp} {E : XK} {k kis_in kproduct_by kinverse : Nat} {cis_in cproduct_by cinverse : Ct}  (t_NONE : TupK G "NONE" [.int 0, .int 1]) (his_in : Has P w G base "is_in" Pis_in kis_in cis_in) (sis_in : Ct.sized cis_in Pis_in.length) (lis_in : kis_in ≤ k) (hproduct_by : Has P w G base "product_by" Pproduct_by kproduct_by cproduct_by) (sproduct_by : Ct.sized cproduct_by Pproduct_by.length) (lproduct_by : kproduct_by ≤ k) (hinverse : Has P w G base "inverse" Pinverse kinverse cinverse) (sinverse : Ct.sized cinverse Pinverse.length) (linverse : kinverse ≤ k) 
    (hr : Room k (FX P w G base Nquotient_by "quotient_by" stquotient_by f (cdv) A outer s H E).A) : PSs (FX P w G base Nquotient_by "quotient_by" stquotient_by f (cdv) A outer s H E) (defBody stquotient_by) (tS G (WEx E) (fsquotient_by cis_in cproduct_by cinverse)) := by
  exact (ss_cons (s_if (tt (xfn his_in sis_in hr (by omega) tkF (xcons (xv 1) (xcons (xtupK t_NONE) xnil)))) (ss_one (s_ret xn)) ss_nil)
    (ss_one (s_ret (xfn hproduct_by sproduct_by hr (by omega) tkF (xcons (xv 0) (xcons (xtup (xcons (xfn hinverse sinverse hr (by omega) tkF (xcons (xix (xv 1) xi) xnil)) (xcons (xfn hinverse sinverse hr (by omega) tkF (xcons (xix (xv 1) xi) xnil)) xnil))) xnil))))))
abbrev stquotient_of : Stmt := top 45
abbrev Nquotient_of : List Str := ["one", "other"]
abbrev Pquotient_of : List Str := ["one", "other"]
theorem scquotient_of : FnScope Nquotient_of Pquotient_of (defScope stquotient_of) := ⟨by kernel_rfl, by kernel_rfl, by kernel_rfl, by decide +kernel, by kernel_rfl, by decide +kernel, by decide +kernel⟩
def fsquotient_of (cneed_two cquotient_by : Ct) : FS :=
  (seqS (exprS (callE cneed_two (consF (varF 0) (consF (varF 1) nilF))))
    (retS (callE cquotient_by (consF (varF 0) (consF (varF 1) nilF)))))
theorem bodyquotient_of {P : Program} {w : World} {G : Gr} {base : Heap} {f : Addr} {cdv : Value} {A : Around} {outer : List PySem.Env} {s : Shared} {H : Hp} {E : XK} {k kneed_two kquotient_by : Nat} {cneed_two cquotient_by : Ct}   (hneed_two : Has P w G base "need_two" Pneed_two kneed_two cneed_two) (sneed_two : Ct.sized cneed_two Pneed_two.length) (lneed_two : kneed_two ≤ k) (hquotient_by : Has P w G base "quotient_by" Pquotient_by kquotient_by cquotient_by) (squotient_by : Ct.sized cquotient_by Pquotient_by.length) (lquotient_by : kquotient_by ≤ k) 
    (hr : Room k (FX P w G base Nquotient_of "quotient_of" stquotient_of f (cdv) A outer s H E).A) : PSs (FX P w G base Nquotient_of "quotient_of" stquotient_of f (cdv) A outer s H E) (defBody stquotient_of) (tS G (WEx E) (fsquotient_of cneed_two cquotient_by)) := by
  exact (ss_cons (sexpr (xfn hneed_two sneed_two hr (by omega) tkF (xcons (xv 0) (xcons (xv 1) xnil))))
    (ss_one (s_ret (xfn hquotient_by squotient_by hr (by omega) tkF (xcons (xv 0) (xcons (xv 1) xnil))))))
abbrev stleast_by : Stmt := top 37
abbrev Nleast_by : List Str := ["one", "other"]
abbrev Pleast_by : List Str := ["one", "other"]
theorem scleast_by : FnScope Nleast_by Pleast_by (defScope stleast_by) := ⟨by kernel_rfl, by kernel_rfl, by kernel_rfl, by decide +kernel, by kernel_rfl, by decide +kernel, by decide +kernel⟩
def fsleast_by (cleast : Ct) : FS :=
  (retS (tupE (consF (callE cleast (consF (idxE (varF 0) (int! 0)) (consF (idxE (varF 1) (int! 0)) nilF))) (consF (callE cleast (consF (idxE (varF 0) (int! 1)) (consF (idxE (varF 1) (int! 1)) nilF))) nilF))))
theorem bodyleast_by {P : Program} {w : World} {G : Gr} {base : Heap} {f : Addr} {cdv : Value} {A : Around} {outer : List PySem.Env} {s : Shared} {H : Hp} {E : XK} {k kleast : Nat} {cleast : Ct}   (hleast : Has P w G base "least" Pleast kleast cleast) (sleast : Ct.sized cleast Pleast.length) (lleast : kleast ≤ k) 
    (hr : Room k (FX P w G base Nleast_by "least_by" stleast_by f (cdv) A outer s H E).A) : PSs (FX P w G base Nleast_by "least_by" stleast_by f (cdv) A outer s H E) (defBody stleast_by) (tS G (WEx E) (fsleast_by cleast)) := by
  exact (ss_one (s_ret (xtup (xcons (xfn hleast sleast hr (by omega) tkF (xcons (xix (xv 0) xi) (xcons (xix (xv 1) xi) xnil))) (xcons (xfn hleast sleast hr (by omega) tkF (xcons (xix (xv 0) xi) (xcons (xix (xv 1) xi) xnil))) xnil)))))
abbrev stleast_of : Stmt := top 46
abbrev Nleast_of : List Str := ["one", "other"]
abbrev Pleast_of : List Str := ["one", "other"]
theorem scleast_of : FnScope Nleast_of Pleast_of (defScope stleast_of) := ⟨by kernel_rfl, by kernel_rfl, by kernel_rfl, by decide +kernel, by kernel_rfl, by decide +kernel, by decide +kernel⟩
def fsleast_of (cneed_two cleast_by : Ct) : FS :=
  (seqS (exprS (callE cneed_two (consF (varF 0) (consF (varF 1) nilF))))
    (retS (callE cleast_by (consF (varF 0) (consF (varF 1) nilF)))))
theorem bodyleast_of {P : Program} {w : World} {G : Gr} {base : Heap} {f : Addr} {cdv : Value} {A : Around} {outer : List PySem.Env} {s : Shared} {H : Hp} {E : XK} {k kneed_two kleast_by : Nat} {cneed_two cleast_by : Ct}   (hneed_two : Has P w G base "need_two" Pneed_two kneed_two cneed_two) (sneed_two : Ct.sized cneed_two Pneed_two.length) (lneed_two : kneed_two ≤ k) (hleast_by : Has P w G base "least_by" Pleast_by kleast_by cleast_by) (sleast_by : Ct.sized cleast_by Pleast_by.length) (lleast_by : kleast_by ≤ k) 
    (hr : Room k (FX P w G base Nleast_of "least_of" stleast_of f (cdv) A outer s H E).A) : PSs (FX P w G base Nleast_of "least_of" stleast_of f (cdv) A outer s H E) (defBody stleast_of) (tS G (WEx E) (fsleast_of cneed_two cleast_by)) := by
  exact (ss_cons (sexpr (xfn hneed_two sneed_two hr (by omega) tkF (xcons (xv 0) (xcons (xv 1) xnil))))
    (ss_one (s_ret (xfn hleast_by sleast_by hr (by omega) tkF (xcons (xv 0) (xcons (xv 1) xnil))))))
abbrev stmost_by : Stmt := top 38
abbrev Nmost_by : List Str := ["one", "other"]
abbrev Pmost_by : List Str := ["one", "other"]
theorem scmost_by : FnScope Nmost_by Pmost_by (defScope stmost_by) := ⟨by kernel_rfl, by kernel_rfl, by kernel_rfl, by decide +kernel, by kernel_rfl, by decide +kernel, by decide +kernel⟩
def fsmost_by (cmost : Ct) : FS :=
  (retS (tupE (consF (callE cmost (consF (idxE (varF 0) (int! 0)) (consF (idxE (varF 1) (int! 0)) nilF))) (consF (callE cmost (consF (idxE (varF 0) (int! 1)) (consF (idxE (varF 1) (int! 1)) nilF))) nilF))))
theorem bodymost_by {P : Program} {w : World} {G : Gr} {base : Heap} {f : Addr} {cdv : Value} {A : Around} {outer : List PySem.Env} {s : Shared} {H : Hp} {E : XK} {k kmost : Nat} {cmost : Ct}   (hmost : Has P w G base "most" Pmost kmost cmost) (smost : Ct.sized cmost Pmost.length) (lmost : kmost ≤ k) 
    (hr : Room k (FX P w G base Nmost_by "most_by" stmost_by f (cdv) A outer s H E).A) : PSs (FX P w G base Nmost_by "most_by" stmost_by f (cdv) A outer s H E) (defBody stmost_by) (tS G (WEx E) (fsmost_by cmost)) := by
  exact (ss_one (s_ret (xtup (xcons (xfn hmost smost hr (by omega) tkF (xcons (xix (xv 0) xi) (xcons (xix (xv 1) xi) xnil))) (xcons (xfn hmost smost hr (by omega) tkF (xcons (xix (xv 0) xi) (xcons (xix (xv 1) xi) xnil))) xnil)))))
abbrev stmost_of : Stmt := top 47
abbrev Nmost_of : List Str := ["one", "other"]
abbrev Pmost_of : List Str := ["one", "other"]
theorem scmost_of : FnScope Nmost_of Pmost_of (defScope stmost_of) := ⟨by kernel_rfl, by kernel_rfl, by kernel_rfl, by decide +kernel, by kernel_rfl, by decide +kernel, by decide +kernel⟩
def fsmost_of (cneed_two cmost_by : Ct) : FS :=
  (seqS (exprS (callE cneed_two (consF (varF 0) (consF (varF 1) nilF))))
    (retS (callE cmost_by (consF (varF 0) (consF (varF 1) nilF)))))
theorem bodymost_of {P : Program} {w : World} {G : Gr} {base : Heap} {f : Addr} {cdv : Value} {A : Around} {outer : List PySem.Env} {s : Shared} {H : Hp} {E : XK} {k kneed_two kmost_by : Nat} {cneed_two cmost_by : Ct}   (hneed_two : Has P w G base "need_two" Pneed_two kneed_two cneed_two) (sneed_two : Ct.sized cneed_two Pneed_two.length) (lneed_two : kneed_two ≤ k) (hmost_by : Has P w G base "most_by" Pmost_by kmost_by cmost_by) (smost_by : Ct.sized cmost_by Pmost_by.length) (lmost_by : kmost_by ≤ k) 
    (hr : Room k (FX P w G base Nmost_of "most_of" stmost_of f (cdv) A outer s H E).A) : PSs (FX P w G base Nmost_of "most_of" stmost_of f (cdv) A outer s H E) (defBody stmost_of) (tS G (WEx E) (fsmost_of cneed_two cmost_by)) := by
  exact (ss_cons (sexpr (xfn hneed_two sneed_two hr (by omega) tkF (xcons (xv 0) (xcons (xv 1) xnil))))
    (ss_one (s_ret (xfn hmost_by smost_by hr (by omega) tkF (xcons (xv 0) (xcons (xv 1) xnil))))))
abbrev stminus_by : Stmt := top 32
abbrev Nminus_by : List Str := ["one"]
abbrev Pminus_by : List Str := ["one"]
theorem scminus_by : FnScope Nminus_by Pminus_by (defScope stminus_by) := ⟨by kernel_rfl, by kernel_rfl, by kernel_rfl, by decide +kernel, by kernel_rfl, by decide +kernel, by decide +kernel⟩
def fsminus_by (cminus : Ct) : FS :=
  (retS (tupE (consF (callE cminus (consF (idxE (varF 0) (int! 1)) nilF)) (consF (callE cminus (consF (idxE (varF 0) (int! 0)) nilF)) nilF))))
theorem bodyminus_by {P : Program} {w : World} {G : Gr} {base : Heap} {f : Addr} {cdv : Value} {A : Around} {outer : List PySem.Env} {s : Shared} {H : Hp} {E : XK} {k kminus : Nat} {cminus : Ct}   (hminus : Has P w G base "minus" Pminus kminus cminus) (sminus : Ct.sized cminus Pminus.length) (lminus : kminus ≤ k) 
    (hr : Room k (FX P w G base Nminus_by "minus_by" stminus_by f (cdv) A outer s H E).A) : PSs (FX P w G base Nminus_by "minus_by" stminus_by f (cdv) A outer s H E) (defBody stminus_by) (tS G (WEx E) (fsminus_by cminus)) := by
  exact (ss_one (s_ret (xtup (xcons (xfn hminus sminus hr (by omega) tkF (xcons (xix (xv 0) xi) xnil)) (xcons (xfn hminus sminus hr (by omega) tkF (xcons (xix (xv 0) xi) xnil)) xnil)))))
abbrev stminus_of : Stmt := top 48
abbrev Nminus_of : List Str := ["stretch"]
abbrev Pminus_of : List Str := ["stretch"]
theorem scminus_of : FnScope Nminus_of Pminus_of (defScope stminus_of) := ⟨by kernel_rfl, by kernel_rfl, by kernel_rfl, by decide +kernel, by kernel_rfl, by decide +kernel, by decide +kernel⟩
def fsminus_of (cneed_stretch cminus_by : Ct) : FS :=
  (seqS (exprS (callE cneed_stretch (consF (varF 0) nilF)))
    (retS (callE cminus_by (consF (varF 0) nilF))))
theorem bodyminus_of {P : Program} {w : World} {G : Gr} {base : Heap} {f : Addr} {cdv : Value} {A : Around} {outer : List PySem.Env} {s : Shared} {H : Hp} {E : XK} {k kneed_stretch kminus_by : Nat} {cneed_stretch cminus_by : Ct}   (hneed_stretch : Has P w G base "need_stretch" Pneed_stretch kneed_stretch cneed_stretch) (sneed_stretch : Ct.sized cneed_stretch Pneed_stretch.length) (lneed_stretch : kneed_stretch ≤ k) (hminus_by : Has P w G base "minus_by" Pminus_by kminus_by cminus_by) (sminus_by : Ct.sized cminus_by Pminus_by.length) (lminus_by : kminus_by ≤ k) 
    (hr : Room k (FX P w G base Nminus_of "minus_of" stminus_of f (cdv) A outer s H E).A) : PSs (FX P w G base Nminus_of "minus_of" stminus_of f (cdv) A outer s H E) (defBody stminus_of) (tS G (WEx E) (fsminus_of cneed_stretch cminus_by)) := by
  exact (ss_cons (sexpr (xfn hneed_stretch sneed_stretch hr (by omega) tkF (xcons (xv 0) xnil)))
    (ss_one (s_ret (xfn hminus_by sminus_by hr (by omega) tkF (xcons (xv 0) xnil)))))
abbrev stamount_by : Stmt := top 36
abbrev Namount_by : List Str := ["one"]
abbrev Pamount_by : List Str := ["one"]
theorem scamount_by : FnScope Namount_by Pamount_by (defScope stamount_by) := ⟨by kernel_rfl, by kernel_rfl, by kernel_rfl, by decide +kernel, by kernel_rfl, by decide +kernel, by decide +kernel⟩
def fsamount_by (cis_less cminus_by cmost cminus : Ct) : FS :=
  (seqS (ifS (truT (callE cis_less (consF (tup! [.int 0, .int 1]) (consF (idxE (varF 0) (int! 0)) nilF)))) (retS (varF 0)) nilS)
    (seqS (ifS (truT (callE cis_less (consF (idxE (varF 0) (int! 1)) (consF (tup! [.int 0, .int 1]) nilF)))) (retS (callE cminus_by (consF (varF 0) nilF))) nilS)
    (retS (tupE (consF (tup! [.int 0, .int 1]) (consF (callE cmost (consF (callE cminus (consF (idxE (varF 0) (int! 0)) nilF)) (consF (idxE (varF 0) (int! 1)) nilF))) nilF))))))
theorem bodyamount_by {P : Program} {w : World} {G : Gr} {base : Heap} {f : Addr} {cdv : Value} {A : Around} {outer : List PySem.Env} {s : Shared} {H : Hp} {E : XK} {k kis_less kminus_by kmost kminus : Nat} {cis_less cminus_by cmost cminus : Ct}  (t_NONE : TupK G "NONE" [.int 0, .int 1]) (his_less : Has P w G base "is_less" Pis_less kis_less cis_less) (sis_less : Ct.sized cis_less Pis_less.length) (lis_less : kis_less ≤ k) (hminus_by : Has P w G base "minus_by" Pminus_by kminus_by cminus_by) (sminus_by : Ct.sized cminus_by Pminus_by.length) (lminus_by : kminus_by ≤ k) (hmost : Has P w G base "most" Pmost kmost cmost) (smost : Ct.sized cmost Pmost.length) (lmost : kmost ≤ k) (hminus : Has P w G base "minus" Pminus kminus cminus) (sminus : Ct.sized cminus Pminus.length) (lminus : kminus ≤ k) 
    (hr : Room k (FX P w G base Namount_by "amount_by" stamount_by f (cdv) A outer s H E).A) : PSs (FX P w G base Namount_by "amount_by" stamount_by f (cdv) A outer s H E) (defBody stamount_by) (tS G (WEx E) (fsamount_by cis_less cminus_by cmost cminus)) := by
  exact (ss_cons (s_if (tt (xfn his_less sis_less hr (by omega) tkF (xcons (xtupK t_NONE) (xcons (xix (xv 0) xi) xnil)))) (ss_one (s_ret (xv 0))) ss_nil)
    (ss_cons (s_if (tt (xfn his_less sis_less hr (by omega) tkF (xcons (xix (xv 0) xi) (xcons (xtupK t_NONE) xnil)))) (ss_one (s_ret (xfn hminus_by sminus_by hr (by omega) tkF (xcons (xv 0) xnil)))) ss_nil)
    (ss_one (s_ret (xtup (xcons (xtupK t_NONE) (xcons (xfn hmost smost hr (by omega) tkF (xcons (xfn hminus sminus hr (by omega) tkF (xcons (xix (xv 0) xi) xnil)) (xcons (xix (xv 0) xi) xnil))) xnil)))))))
abbrev stamount_of : Stmt := top 49
abbrev Namount_of : List Str := ["stretch"]
abbrev Pamount_of : List Str := ["stretch"]
theorem scamount_of : FnScope Namount_of Pamount_of (defScope stamount_of) := ⟨by kernel_rfl, by kernel_rfl, by kernel_rfl, by decide +kernel, by kernel_rfl, by decide +kernel, by decide +kernel⟩
def fsamount_of (cneed_stretch camount_by : Ct) : FS :=
  (seqS (exprS (callE cneed_stretch (consF (varF 0) nilF)))
    (retS (callE camount_by (consF (varF 0) nilF))))
theorem bodyamount_of {P : Program} {w : World} {G : Gr} {base : Heap} {f : Addr} {cdv : Value} {A : Around} {outer : List PySem.Env} {s : Shared} {H : Hp} {E : XK} {k kneed_stretch kamount_by : Nat} {cneed_stretch camount_by : Ct}   (hneed_stretch : Has P w G base "need_stretch" Pneed_stretch kneed_stretch cneed_stretch) (sneed_stretch : Ct.sized cneed_stretch Pneed_stretch.length) (lneed_stretch : kneed_stretch ≤ k) (hamount_by : Has P w G base "amount_by" Pamount_by kamount_by camount_by) (samount_by : Ct.sized camount_by Pamount_by.length) (lamount_by : kamount_by ≤ k) 
    (hr : Room k (FX P w G base Namount_of "amount_of" stamount_of f (cdv) A outer s H E).A) : PSs (FX P w G base Namount_of "amount_of" stamount_of f (cdv) A outer s H E) (defBody stamount_of) (tS G (WEx E) (fsamount_of cneed_stretch camount_by)) := by
  exact (ss_cons (sexpr (xfn hneed_stretch sneed_stretch hr (by omega) tkF (xcons (xv 0) xnil)))
    (ss_one (s_ret (xfn hamount_by samount_by hr (by omega) tkF (xcons (xv 0) xnil)))))
abbrev stis_whole : Stmt := top 8
abbrev Nis_whole : List Str := ["value", "low", "high"]
abbrev Pis_whole : List Str := ["value", "low", "high"]
theorem scis_whole : FnScope Nis_whole Pis_whole (defScope stis_whole) := ⟨by kernel_rfl, by kernel_rfl, by kernel_rfl, by decide +kernel, by kernel_rfl, by decide +kernel, by decide +kernel⟩
def fsis_whole : FS :=
  (retS (andV (biE isiB (consF (varF 0) (consF (ty! "int") nilF))) (andV (notV (biE isiB (consF (varF 0) (consF (ty! "bool") nilF)))) (chF leG leG (varF 1) (varF 0) (varF 2)))))
theorem bodyis_whole {P : Program} {w : World} {G : Gr} {base : Heap} {f : Addr} {cdv : Value} {A : Around} {outer : List PySem.Env} {s : Shared} {H : Hp} {E : XK} {k  : Nat}   (b_int : G.mg "int" = none) (b_isinstance : G.mg "isinstance" = none) (b_bool : G.mg "bool" = none)  
    (hr : Room k (FX P w G base Nis_whole "is_whole" stis_whole f (cdv) A outer s H E).A) : PSs (FX P w G base Nis_whole "is_whole" stis_whole f (cdv) A outer s H E) (defBody stis_whole) (tS G (WEx E) (fsis_whole )) := by
  exact (ss_one (s_ret (xand (xcB (bf_isi rfl) b_isinstance (xcons (xv 0) (xcons (xty b_int) xnil))) (xand (xnot (xcB (bf_isi rfl) b_isinstance (xcons (xv 0) (xcons (xty b_bool) xnil)))) (xone (xch ole ole (xv 1) (xv 0) (xv 2)))))))
abbrev stneed_whole : Stmt := top 27
abbrev Nneed_whole : List Str := ["value", "low", "high"]
abbrev Pneed_whole : List Str := ["value", "low", "high"]
theorem scneed_whole : FnScope Nneed_whole Pneed_whole (defScope stneed_whole) := ⟨by kernel_rfl, by kernel_rfl, by kernel_rfl, by decide +kernel, by kernel_rfl, by decide +kernel, by decide +kernel⟩
def fsneed_whole (cis_whole : Ct) : FS :=
  (ifS (notF (truT (callE cis_whole (consF (varF 0) (consF (varF 1) (consF (varF 2) nilF)))))) (raiseS "InvalidNumber") nilS)
theorem bodyneed_whole {P : Program} {w : World} {G : Gr} {base : Heap} {f : Addr} {cdv : Value} {A : Around} {outer : List PySem.Env} {s : Shared} {H : Hp} {E : XK} {k kis_whole : Nat} {cis_whole : Ct}  (x_InvalidNumber : ExcK G "InvalidNumber") (his_whole : Has P w G base "is_whole" Pis_whole kis_whole cis_whole) (sis_whole : Ct.sized cis_whole Pis_whole.length) (lis_whole : kis_whole ≤ k) 
    (hr : Room k (FX P w G base Nneed_whole "need_whole" stneed_whole f (cdv) A outer s H E).A) : PSs (FX P w G base Nneed_whole "need_whole" stneed_whole f (cdv) A outer s H E) (defBody stneed_whole) (tS G (WEx E) (fsneed_whole cis_whole)) := by
  exact (ss_one (s_if (tnot (tt (xfn his_whole sis_whole hr (by omega) tkF (xcons (xv 0) (xcons (xv 1) (xcons (xv 2) xnil)))))) (ss_one (sraise x_InvalidNumber tkF)) ss_nil))
abbrev straised : Stmt := top 39
abbrev Nraised : List Str := ["one", "many"]
abbrev Praised : List Str := ["one", "many"]
theorem scraised : FnScope Nraised Praised (defScope straised) := ⟨by kernel_rfl, by kernel_rfl, by kernel_rfl, by decide +kernel, by kernel_rfl, by decide +kernel, by decide +kernel⟩
def fsraised (ctimes craised : Ct) : FS :=
  (retS (iteV (cmpT gtG (varF 1) (int! 0)) (callE ctimes (consF (varF 0) (consF (callE craised (consF (varF 0) (consF (binE subF (varF 1) (int! 1)) nilF))) nilF))) (tup! [.int 1, .int 1])))
theorem bodyraised {P : Program} {w : World} {G : Gr} {base : Heap} {f : Addr} {cdv : Value} {A : Around} {outer : List PySem.Env} {s : Shared} {H : Hp} {E : XK} {k ktimes kraised : Nat} {ctimes craised : Ct}  (t_ONE : TupK G "ONE" [.int 1, .int 1]) (htimes : Has P w G base "times" Ptimes ktimes ctimes) (stimes : Ct.sized ctimes Ptimes.length) (ltimes : ktimes ≤ k) (hraised : Has P w G base "raised" Praised kraised craised) (sraised : Ct.sized craised Praised.length) (lraised : kraised ≤ k) 
    (hr : Room k (FX P w G base Nraised "raised" straised f (cdv) A outer s H E).A) : PSs (FX P w G base Nraised "raised" straised f (cdv) A outer s H E) (defBody straised) (tS G (WEx E) (fsraised ctimes craised)) := by
  exact (ss_one (s_ret (xife (tcmp ogt bl_gt (xv 1) xi) (xfn htimes stimes hr (by omega) tkF (xcons (xv 0) (xcons (xfn hraised sraised hr (by omega) tkF (xcons (xv 0) (xcons (xbin osub (xv 1) xi) xnil))) xnil))) (xtupK t_ONE))))
abbrev stpower_by : Stmt := top 40
abbrev Npower_by : List Str := ["one", "many", "own"]
abbrev Ppower_by : List Str := ["one", "many"]
theorem scpower_by : FnScope Npower_by Ppower_by (defScope stpower_by) := ⟨by kernel_rfl, by kernel_rfl, by kernel_rfl, by decide +kernel, by kernel_rfl, by decide +kernel, by decide +kernel⟩
def fspower_by (camount_by craised : Ct) : FS :=
  (seqS (ifS (cmpT eqG (varF 1) (int! 0)) (retS (tupE (consF (tup! [.int 1, .int 1]) (consF (tup! [.int 1, .int 1]) nilF)))) nilS)
    (seqS (setS 2 (iteV (cmpT eqG (binE modG (varF 1) (int! 2)) (int! 0)) (callE camount_by (consF (varF 0) nilF)) (varF 0)))
    (retS (tupE (consF (callE craised (consF (idxE (varF 2) (int! 0)) (consF (varF 1) nilF))) (consF (callE craised (consF (idxE (varF 2) (int! 1)) (consF (varF 1) nilF))) nilF))))))
theorem bodypower_by {P : Program} {w : World} {G : Gr} {base : Heap} {f : Addr} {cdv : Value} {A : Around} {outer : List PySem.Env} {s : Shared} {H : Hp} {E : XK} {k kamount_by kraised : Nat} {camount_by craised : Ct}  (t_ONE : TupK G "ONE" [.int 1, .int 1]) (hamount_by : Has P w G base "amount_by" Pamount_by kamount_by camount_by) (samount_by : Ct.sized camount_by Pamount_by.length) (lamount_by : kamount_by ≤ k) (hraised : Has P w G base "raised" Praised kraised craised) (sraised : Ct.sized craised Praised.length) (lraised : kraised ≤ k) 
    (hr : Room k (FX P w G base Npower_by "power_by" stpower_by f (cdv) A outer s H E).A) : PSs (FX P w G base Npower_by "power_by" stpower_by f (cdv) A outer s H E) (defBody stpower_by) (tS G (WEx E) (fspower_by camount_by craised)) := by
  exact (ss_cons (s_if (tcmp (oeq hr) bl_eq (xv 1) xi) (ss_one (s_ret (xtup (xcons (xtupK t_ONE) (xcons (xtupK t_ONE) xnil))))) ss_nil)
    (ss_cons (sset 2 scpower_by.nd (xife (tcmp (oeq hr) bl_eq (xbin omod (xv 1) xi) xi) (xfn hamount_by samount_by hr (by omega) tkF (xcons (xv 0) xnil)) (xv 0)))
    (ss_one (s_ret (xtup (xcons (xfn hraised sraised hr (by omega) tkF (xcons (xix (xv 2) xi) (xcons (xv 1) xnil))) (xcons (xfn hraised sraised hr (by omega) tkF (xcons (xix (xv 2) xi) (xcons (xv 1) xnil))) xnil)))))))
abbrev stpower_of : Stmt := top 50
abbrev Npower_of : List Str := ["stretch", "many"]
abbrev Ppower_of : List Str := ["stretch", "many"]
theorem scpower_of : FnScope Npower_of Ppower_of (defScope stpower_of) := ⟨by kernel_rfl, by kernel_rfl, by kernel_rfl, by decide +kernel, by kernel_rfl, by decide +kernel, by decide +kernel⟩
def fspower_of (cneed_stretch cneed_whole cpower_by : Ct) : FS :=
  (seqS (exprS (callE cneed_stretch (consF (varF 0) nilF)))
    (seqS (exprS (callE cneed_whole (consF (varF 1) (consF (int! 0) (consF (int! 12) nilF)))))
    (retS (callE cpower_by (consF (varF 0) (consF (varF 1) nilF))))))
theorem bodypower_of {P : Program} {w : World} {G : Gr} {base : Heap} {f : Addr} {cdv : Value} {A : Around} {outer : List PySem.Env} {s : Shared} {H : Hp} {E : XK} {k kneed_stretch kneed_whole kpower_by : Nat} {cneed_stretch cneed_whole cpower_by : Ct}  (n_EXPONENT : ∃ t, G.mg "EXPONENT" = some (.int 12 t)) (hneed_stretch : Has P w G base "need_stretch" Pneed_stretch kneed_stretch cneed_stretch) (sneed_stretch : Ct.sized cneed_stretch Pneed_stretch.length) (lneed_stretch : kneed_stretch ≤ k) (hneed_whole : Has P w G base "need_whole" Pneed_whole kneed_whole cneed_whole) (sneed_whole : Ct.sized cneed_whole Pneed_whole.length) (lneed_whole : kneed_whole ≤ k) (hpower_by : Has P w G base "power_by" Ppower_by kpower_by cpower_by) (spower_by : Ct.sized cpower_by Ppower_by.length) (lpower_by : kpower_by ≤ k) 
    (hr : Room k (FX P w G base Npower_of "power_of" stpower_of f (cdv) A outer s H E).A) : PSs (FX P w G base Npower_of "power_of" stpower_of f (cdv) A outer s H E) (defBody stpower_of) (tS G (WEx E) (fspower_of cneed_stretch cneed_whole cpower_by)) := by
  exact (ss_cons (sexpr (xfn hneed_stretch sneed_stretch hr (by omega) tkF (xcons (xv 0) xnil)))
    (ss_cons (sexpr (xfn hneed_whole sneed_whole hr (by omega) tkF (xcons (xv 1) (xcons xi (xcons (xg n_EXPONENT) xnil)))))
    (ss_one (s_ret (xfn hpower_by spower_by hr (by omega) tkF (xcons (xv 0) (xcons (xv 1) xnil)))))))
abbrev st_law_same : Stmt := top 63
abbrev N_law_same : List Str := ["told", "due"]
abbrev P_law_same : List Str := ["told", "due"]
theorem sc_law_same : FnScope N_law_same P_law_same (defScope st_law_same) := ⟨by kernel_rfl, by kernel_rfl, by kernel_rfl, by decide +kernel, by kernel_rfl, by decide +kernel, by decide +kernel⟩
def fs_law_same : FS :=
  (retS (binE seqG (biE reprB (consF (varF 0) nilF)) (biE reprB (consF (varF 1) nilF))))
theorem body_law_same {P : Program} {w : World} {G : Gr} {base : Heap} {f : Addr} {cdv : Value} {A : Around} {outer : List PySem.Env} {s : Shared} {H : Hp} {E : XK} {k  : Nat}   (b_repr : G.mg "repr" = none)  (hgd : A.guards = some []) 
    (hr : Room k (FX P w G base N_law_same "_law_same" st_law_same f (cdv) A outer s H E).A) : PSs (FX P w G base N_law_same "_law_same" st_law_same f (cdv) A outer s H E) (defBody st_law_same) (tS G (WEx E) (fs_law_same )) := by
  exact (ss_one (s_ret (xcmp oeqs (xcB (bf_repr hgd hr) b_repr (xcons (xv 0) xnil)) (xcB (bf_repr hgd hr) b_repr (xcons (xv 1) xnil)))))
abbrev st_law_common : Stmt := top 55
abbrev N_law_common : List Str := ["one", "other"]
abbrev P_law_common : List Str := ["one", "other"]
theorem sc_law_common : FnScope N_law_common P_law_common (defScope st_law_common) := ⟨by kernel_rfl, by kernel_rfl, by kernel_rfl, by decide +kernel, by kernel_rfl, by decide +kernel, by decide +kernel⟩
def fs_law_common : FS :=
  (seqS (whileS (truT (varF 1)) (parS 0 1 (consF (varF 1) (consF (binE modG (biE intB (consF (varF 0) nilF)) (varF 1)) nilF))))
    (retS (iteV (cmpT gtG (varF 0) (int! 0)) (varF 0) (negE (varF 0)))))
theorem body_law_common {P : Program} {w : World} {G : Gr} {base : Heap} {f : Addr} {cdv : Value} {A : Around} {outer : List PySem.Env} {s : Shared} {H : Hp} {E : XK} {k  : Nat}   (b_int : G.mg "int" = none)  
    (hr : Room k (FX P w G base N_law_common "_law_common" st_law_common f (cdv) A outer s H E).A) : PSs (FX P w G base N_law_common "_law_common" st_law_common f (cdv) A outer s H E) (defBody st_law_common) (tS G (WEx E) (fs_law_common )) := by
  exact (ss_cons (s_while poF (tt (xv 1)) (ss_one (spar 0 1 sc_law_common.nd (xcons (xv 1) (xcons (xbin omod (xcT bf_int b_int (xcons (xv 0) xnil)) (xv 1)) xnil)))))
    (ss_one (s_ret (xife (tcmp ogt bl_gt (xv 0) xi) (xv 0) (xneg (xv 0))))))
abbrev st_law_made : Stmt := top 56
abbrev N_law_made : List Str := ["over", "under", "common"]
abbrev P_law_made : List Str := ["over", "under"]
theorem sc_law_made : FnScope N_law_made P_law_made (defScope st_law_made) := ⟨by kernel_rfl, by kernel_rfl, by kernel_rfl, by decide +kernel, by kernel_rfl, by decide +kernel, by decide +kernel⟩
def fs_law_made (c_law_common : Ct) : FS :=
  (seqS (setS 2 (callE c_law_common (consF (varF 0) (consF (varF 1) nilF))))
    (seqS (setS 2 (iteV (cmpT gtG (varF 1) (int! 0)) (varF 2) (negE (varF 2))))
    (retS (tupE (consF (binE fdivG (varF 0) (varF 2)) (consF (binE fdivG (varF 1) (varF 2)) nilF))))))
theorem body_law_made {P : Program} {w : World} {G : Gr} {base : Heap} {f : Addr} {cdv : Value} {A : Around} {outer : List PySem.Env} {s : Shared} {H : Hp} {E : XK} {k k_law_common : Nat} {c_law_common : Ct}   (h_law_common : Has P w G base "_law_common" P_law_common k_law_common c_law_common) (s_law_common : Ct.sized c_law_common P_law_common.length) (l_law_common : k_law_common ≤ k) 
    (hr : Room k (FX P w G base N_law_made "_law_made" st_law_made f (cdv) A outer s H E).A) : PSs (FX P w G base N_law_made "_law_made" st_law_made f (cdv) A outer s H E) (defBody st_law_made) (tS G (WEx E) (fs_law_made c_law_common)) := by
  exact (ss_cons (sset 2 sc_law_made.nd (xfn h_law_common s_law_common hr (by omega) tkF (xcons (xv 0) (xcons (xv 1) xnil))))
    (ss_cons (sset 2 sc_law_made.nd (xife (tcmp ogt bl_gt (xv 1) xi) (xv 2) (xneg (xv 2))))
    (ss_one (s_ret (xtup (xcons (xbin ofdiv (xv 0) (xv 2)) (xcons (xbin ofdiv (xv 1) (xv 2)) xnil)))))))
abbrev st_law_roll : Stmt := top 53
abbrev N_law_roll : List Str := ["cup", "many", "found", "deep"]
abbrev P_law_roll : List Str := ["cup", "many"]
theorem sc_law_roll : FnScope N_law_roll P_law_roll (defScope st_law_roll) := ⟨by kernel_rfl, by kernel_rfl, by kernel_rfl, by decide +kernel, by kernel_rfl, by decide +kernel, by decide +kernel⟩
def fs_law_roll : FS :=
  (seqS (ifS (cmpT gtG (idxE (varF 0) (int! 0)) (int! 0)) (seqS (setS 2 (binE modG (biE intB (consF (idxE (varF 0) (int! 0)) nilF)) (varF 1)))
    (seqS (subS (binE fdivG (idxE (varF 0) (int! 0)) (varF 1)) (varF 0) (int! 0))
    (retS (varF 2)))) nilS)
    (seqS (subS (binE modG (biE intB (consF (binE (addF false) (binE (mulF false) (idxE (varF 0) (int! 1)) (int! 31081)) (int! 8039)) nilF)) (int! 2147483543)) (varF 0) (int! 1))
    (seqS (setS 3 (binE modG (biE intB (consF (binE (mulF false) (idxE (varF 0) (int! 1)) (binE (addF false) (idxE (varF 0) (int! 1)) (int! 251))) nilF)) (int! 2147483587)))
    (retS (binE modG (biE intB (consF (binE fdivG (varF 3) (int! 839)) nilF)) (varF 1))))))
theorem body_law_roll {P : Program} {w : World} {G : Gr} {base : Heap} {f : Addr} {cdv : Value} {A : Around} {outer : List PySem.Env} {s : Shared} {H : Hp} {E : XK} {k  : Nat}   (b_int : G.mg "int" = none)  
    (hr : Room k (FX P w G base N_law_roll "_law_roll" st_law_roll f (cdv) A outer s H E).A) : PSs (FX P w G base N_law_roll "_law_roll" st_law_roll f (cdv) A outer s H E) (defBody st_law_roll) (tS G (WEx E) (fs_law_roll )) := by
  exact (ss_cons (s_if (tcmp ogt bl_gt (xix (xv 0) xi) xi) (ss_cons (sset 2 sc_law_roll.nd (xbin omod (xcT bf_int b_int (xcons (xix (xv 0) xi) xnil)) (xv 1)))
    (ss_cons (sub' (xbin ofdiv (xix (xv 0) xi) (xv 1)) (xv 0) xi)
    (ss_one (s_ret (xv 2))))) ss_nil)
    (ss_cons (sub' (xbin omod (xcT bf_int b_int (xcons (xbin (oadd false) (xbin (omul false) (xix (xv 0) xi) xi) xi) xnil)) xi) (xv 0) xi)
    (ss_cons (sset 3 sc_law_roll.nd (xbin omod (xcT bf_int b_int (xcons (xbin (omul false) (xix (xv 0) xi) (xbin (oadd false) (xix (xv 0) xi) xi)) xnil)) xi))
    (ss_one (s_ret (xbin omod (xcT bf_int b_int (xcons (xbin ofdiv (xv 3) xi) xnil)) (xv 1)))))))
abbrev st_law_some : Stmt := top 54
abbrev N_law_some : List Str := ["cup", "things"]
abbrev P_law_some : List Str := ["cup", "things"]
theorem sc_law_some : FnScope N_law_some P_law_some (defScope st_law_some) := ⟨by kernel_rfl, by kernel_rfl, by kernel_rfl, by decide +kernel, by kernel_rfl, by decide +kernel, by decide +kernel⟩
def fs_law_some (c_law_roll : Ct) : FS :=
  (retS (idxE (varF 1) (callE c_law_roll (consF (varF 0) (consF (biE lenB (consF (varF 1) nilF)) nilF)))))
theorem body_law_some {P : Program} {w : World} {G : Gr} {base : Heap} {f : Addr} {cdv : Value} {A : Around} {outer : List PySem.Env} {s : Shared} {H : Hp} {E : XK} {k k_law_roll : Nat} {c_law_roll : Ct}  (b_len : G.mg "len" = none) (h_law_roll : Has P w G base "_law_roll" P_law_roll k_law_roll c_law_roll) (s_law_roll : Ct.sized c_law_roll P_law_roll.length) (l_law_roll : k_law_roll ≤ k) 
    (hr : Room k (FX P w G base N_law_some "_law_some" st_law_some f (cdv) A outer s H E).A) : PSs (FX P w G base N_law_some "_law_some" st_law_some f (cdv) A outer s H E) (defBody st_law_some) (tS G (WEx E) (fs_law_some c_law_roll)) := by
  exact (ss_one (s_ret (xix (xv 1) (xfn h_law_roll s_law_roll hr (by omega) tkF (xcons (xv 0) (xcons (xcB (bf_len rfl) b_len (xcons (xv 1) xnil)) xnil))))))
abbrev st_law_any : Stmt := top 64
abbrev N_law_any : List Str := ["cup"]
abbrev P_law_any : List Str := ["cup"]
theorem sc_law_any : FnScope N_law_any P_law_any (defScope st_law_any) := ⟨by kernel_rfl, by kernel_rfl, by kernel_rfl, by decide +kernel, by kernel_rfl, by decide +kernel, by decide +kernel⟩
def fs_law_any (c_law_made c_law_roll c_law_some : Ct) : FS :=
  (retS (callE c_law_made (consF (callE c_law_some (consF (varF 0) (consF (lstE false (consF (int! 0) (consF (int! 1) (consF (negE (int! 1)) (consF (int! 2) (consF (binE subF (callE c_law_roll (consF (varF 0) (consF (int! 41) nilF))) (int! 20)) (consF (binE subF (callE c_law_roll (consF (varF 0) (consF (int! 4001) nilF))) (int! 2000)) nilF))))))) nilF))) (consF (binE (addF false) (int! 1) (callE c_law_roll (consF (varF 0) (consF (callE c_law_some (consF (varF 0) (consF (lstE false (consF (int! 1) (consF (int! 6) (consF (int! 900) nilF)))) nilF))) nilF)))) nilF))))
theorem body_law_any {P : Program} {w : World} {G : Gr} {base : Heap} {f : Addr} {cdv : Value} {A : Around} {outer : List PySem.Env} {s : Shared} {H : Hp} {E : XK} {k k_law_made k_law_roll k_law_some : Nat} {c_law_made c_law_roll c_law_some : Ct}   (h_law_made : Has P w G base "_law_made" P_law_made k_law_made c_law_made) (s_law_made : Ct.sized c_law_made P_law_made.length) (l_law_made : k_law_made ≤ k) (h_law_roll : Has P w G base "_law_roll" P_law_roll k_law_roll c_law_roll) (s_law_roll : Ct.sized c_law_roll P_law_roll.length) (l_law_roll : k_law_roll ≤ k) (h_law_some : Has P w G base "_law_some" P_law_some k_law_some c_law_some) (s_law_some : Ct.sized c_law_some P_law_some.length) (l_law_some : k_law_some ≤ k) 
    (hr : Room k (FX P w G base N_law_any "_law_any" st_law_any f (cdv) A outer s H E).A) : PSs (FX P w G base N_law_any "_law_any" st_law_any f (cdv) A outer s H E) (defBody st_law_any) (tS G (WEx E) (fs_law_any c_law_made c_law_roll c_law_some)) := by
  exact (ss_one (s_ret (xfn h_law_made s_law_made hr (by omega) tkF (xcons (xfn h_law_some s_law_some hr (by omega) tkF (xcons (xv 0) (xcons (xlst false (xcons xi (xcons xi (xcons (xneg xi) (xcons xi (xcons (xbin osub (xfn h_law_roll s_law_roll hr (by omega) tkF (xcons (xv 0) (xcons xi xnil))) xi) (xcons (xbin osub (xfn h_law_roll s_law_roll hr (by omega) tkF (xcons (xv 0) (xcons xi xnil))) xi) xnil))))))) xnil))) (xcons (xbin (oadd false) xi (xfn h_law_roll s_law_roll hr (by omega) tkF (xcons (xv 0) (xcons (xfn h_law_some s_law_some hr (by omega) tkF (xcons (xv 0) (xcons (xlst false (xcons xi (xcons xi (xcons xi xnil)))) xnil))) xnil)))) xnil)))))
abbrev st_law_is_less : Stmt := top 61
abbrev N_law_is_less : List Str := ["one", "other"]
abbrev P_law_is_less : List Str := ["one", "other"]
theorem sc_law_is_less : FnScope N_law_is_less P_law_is_less (defScope st_law_is_less) := ⟨by kernel_rfl, by kernel_rfl, by kernel_rfl, by decide +kernel, by kernel_rfl, by decide +kernel, by decide +kernel⟩
def fs_law_is_less : FS :=
  (retS (binE ltG (binE (mulF false) (idxE (varF 0) (int! 0)) (idxE (varF 1) (int! 1))) (binE (mulF false) (idxE (varF 1) (int! 0)) (idxE (varF 0) (int! 1)))))
theorem body_law_is_less {P : Program} {w : World} {G : Gr} {base : Heap} {f : Addr} {cdv : Value} {A : Around} {outer : List PySem.Env} {s : Shared} {H : Hp} {E : XK} {k  : Nat}     
    (hr : Room k (FX P w G base N_law_is_less "_law_is_less" st_law_is_less f (cdv) A outer s H E).A) : PSs (FX P w G base N_law_is_less "_law_is_less" st_law_is_less f (cdv) A outer s H E) (defBody st_law_is_less) (tS G (WEx E) (fs_law_is_less )) := by
  exact (ss_one (s_ret (xcmp olt (xbin (omul false) (xix (xv 0) xi) (xix (xv 1) xi)) (xbin (omul false) (xix (xv 1) xi) (xix (xv 0) xi)))))
abbrev st_law_order : Stmt := top 65
abbrev N_law_order : List Str := ["one", "other"]
abbrev P_law_order : List Str := ["one", "other"]
theorem sc_law_order : FnScope N_law_order P_law_order (defScope st_law_order) := ⟨by kernel_rfl, by kernel_rfl, by kernel_rfl, by decide +kernel, by kernel_rfl, by decide +kernel, by decide +kernel⟩
def fs_law_order (c_law_is_less : Ct) : FS :=
  (retS (iteV (truT (callE c_law_is_less (consF (varF 1) (consF (varF 0) nilF)))) (tupE (consF (varF 1) (consF (varF 0) nilF))) (tupE (consF (varF 0) (consF (varF 1) nilF)))))
theorem body_law_order {P : Program} {w : World} {G : Gr} {base : Heap} {f : Addr} {cdv : Value} {A : Around} {outer : List PySem.Env} {s : Shared} {H : Hp} {E : XK} {k k_law_is_less : Nat} {c_law_is_less : Ct}   (h_law_is_less : Has P w G base "_law_is_less" P_law_is_less k_law_is_less c_law_is_less) (s_law_is_less : Ct.sized c_law_is_less P_law_is_less.length) (l_law_is_less : k_law_is_less ≤ k) 
    (hr : Room k (FX P w G base N_law_order "_law_order" st_law_order f (cdv) A outer s H E).A) : PSs (FX P w G base N_law_order "_law_order" st_law_order f (cdv) A outer s H E) (defBody st_law_order) (tS G (WEx E) (fs_law_order c_law_is_less)) := by
  exact (ss_one (s_ret (xife (tt (xfn h_law_is_less s_law_is_less hr (by omega) tkF (xcons (xv 1) (xcons (xv 0) xnil)))) (xtup (xcons (xv 1) (xcons (xv 0) xnil))) (xtup (xcons (xv 0) (xcons (xv 1) xnil))))))
abbrev st_law_stretch : Stmt := top 66
abbrev N_law_stretch : List Str := ["cup", "one"]
abbrev P_law_stretch : List Str := ["cup"]
theorem sc_law_stretch : FnScope N_law_stretch P_law_stretch (defScope st_law_stretch) := ⟨by kernel_rfl, by kernel_rfl, by kernel_rfl, by decide +kernel, by kernel_rfl, by decide +kernel, by decide +kernel⟩
def fs_law_stretch (c_law_any c_law_roll c_law_order : Ct) : FS :=
  (seqS (setS 1 (callE c_law_any (consF (varF 0) nilF)))
    (retS (iteV (cmpT eqG (callE c_law_roll (consF (varF 0) (consF (int! 5) nilF))) (int! 0)) (tupE (consF (varF 1) (consF (varF 1) nilF))) (callE c_law_order (consF (varF 1) (consF (callE c_law_any (consF (varF 0) nilF)) nilF))))))
theorem body_law_stretch {P : Program} {w : World} {G : Gr} {base : Heap} {f : Addr} {cdv : Value} {A : Around} {outer : List PySem.Env} {s : Shared} {H : Hp} {E : XK} {k k_law_any k_law_roll k_law_order : Nat} {c_law_any c_law_roll c_law_order : Ct}   (h_law_any : Has P w G base "_law_any" P_law_any k_law_any c_law_any) (s_law_any : Ct.sized c_law_any P_law_any.length) (l_law_any : k_law_any ≤ k) (h_law_roll : Has P w G base "_law_roll" P_law_roll k_law_roll c_law_roll) (s_law_roll : Ct.sized c_law_roll P_law_roll.length) (l_law_roll : k_law_roll ≤ k) (h_law_order : Has P w G base "_law_order" P_law_order k_law_order c_law_order) (s_law_order : Ct.sized c_law_order P_law_order.length) (l_law_order : k_law_order ≤ k) 
    (hr : Room k (FX P w G base N_law_stretch "_law_stretch" st_law_stretch f (cdv) A outer s H E).A) : PSs (FX P w G base N_law_stretch "_law_stretch" st_law_stretch f (cdv) A outer s H E) (defBody st_law_stretch) (tS G (WEx E) (fs_law_stretch c_law_any c_law_roll c_law_order)) := by
  exact (ss_cons (sset 1 sc_law_stretch.nd (xfn h_law_any s_law_any hr (by omega) tkF (xcons (xv 0) xnil)))
    (ss_one (s_ret (xife (tcmp (oeq hr) bl_eq (xfn h_law_roll s_law_roll hr (by omega) tkF (xcons (xv 0) (xcons xi xnil))) xi) (xtup (xcons (xv 1) (xcons (xv 1) xnil))) (xfn h_law_order s_law_order hr (by omega) tkF (xcons (xv 1) (xcons (xfn h_law_any s_law_any hr (by omega) tkF (xcons (xv 0) xnil)) xnil)))))))
abbrev st_law_in : Stmt := top 68
abbrev N_law_in : List Str := ["stretch", "one"]
abbrev P_law_in : List Str := ["stretch", "one"]
theorem sc_law_in : FnScope N_law_in P_law_in (defScope st_law_in) := ⟨by kernel_rfl, by kernel_rfl, by kernel_rfl, by decide +kernel, by kernel_rfl, by decide +kernel, by decide +kernel⟩
def fs_law_in (c_law_is_less : Ct) : FS :=
  (retS (andV (notV (callE c_law_is_less (consF (varF 1) (consF (idxE (varF 0) (int! 0)) nilF)))) (notV (callE c_law_is_less (consF (idxE (varF 0) (int! 1)) (consF (varF 1) nilF))))))
theorem body_law_in {P : Program} {w : World} {G : Gr} {base : Heap} {f : Addr} {cdv : Value} {A : Around} {outer : List PySem.Env} {s : Shared} {H : Hp} {E : XK} {k k_law_is_less : Nat} {c_law_is_less : Ct}   (h_law_is_less : Has P w G base "_law_is_less" P_law_is_less k_law_is_less c_law_is_less) (s_law_is_less : Ct.sized c_law_is_less P_law_is_less.length) (l_law_is_less : k_law_is_less ≤ k) 
    (hr : Room k (FX P w G base N_law_in "_law_in" st_law_in f (cdv) A outer s H E).A) : PSs (FX P w G base N_law_in "_law_in" st_law_in f (cdv) A outer s H E) (defBody st_law_in) (tS G (WEx E) (fs_law_in c_law_is_less)) := by
  exact (ss_one (s_ret (xand (xnot (xfn h_law_is_less s_law_is_less hr (by omega) tkF (xcons (xv 1) (xcons (xix (xv 0) xi) xnil)))) (xone (xnot (xfn h_law_is_less s_law_is_less hr (by omega) tkF (xcons (xix (xv 0) xi) (xcons (xv 1) xnil))))))))
abbrev st_law_minus : Stmt := top 58
abbrev N_law_minus : List Str := ["one"]
abbrev P_law_minus : List Str := ["one"]
theorem sc_law_minus : FnScope N_law_minus P_law_minus (defScope st_law_minus) := ⟨by kernel_rfl, by kernel_rfl, by kernel_rfl, by decide +kernel, by kernel_rfl, by decide +kernel, by decide +kernel⟩
def fs_law_minus : FS :=
  (retS (tupE (consF (negE (idxE (varF 0) (int! 0))) (consF (idxE (varF 0) (int! 1)) nilF))))
theorem body_law_minus {P : Program} {w : World} {G : Gr} {base : Heap} {f : Addr} {cdv : Value} {A : Around} {outer : List PySem.Env} {s : Shared} {H : Hp} {E : XK} {k  : Nat}     
    (hr : Room k (FX P w G base N_law_minus "_law_minus" st_law_minus f (cdv) A outer s H E).A) : PSs (FX P w G base N_law_minus "_law_minus" st_law_minus f (cdv) A outer s H E) (defBody st_law_minus) (tS G (WEx E) (fs_law_minus )) := by
  exact (ss_one (s_ret (xtup (xcons (xneg (xix (xv 0) xi)) (xcons (xix (xv 0) xi) xnil)))))
abbrev st_law_plus : Stmt := top 57
abbrev N_law_plus : List Str := ["one", "other"]
abbrev P_law_plus : List Str := ["one", "other"]
theorem sc_law_plus : FnScope N_law_plus P_law_plus (defScope st_law_plus) := ⟨by kernel_rfl, by kernel_rfl, by kernel_rfl, by decide +kernel, by kernel_rfl, by decide +kernel, by decide +kernel⟩
def fs_law_plus (c_law_made : Ct) : FS :=
  (retS (callE c_law_made (consF (binE (addF false) (binE (mulF false) (idxE (varF 0) (int! 0)) (idxE (varF 1) (int! 1))) (binE (mulF false) (idxE (varF 1) (int! 0)) (idxE (varF 0) (int! 1)))) (consF (binE (mulF false) (idxE (varF 0) (int! 1)) (idxE (varF 1) (int! 1))) nilF))))
theorem body_law_plus {P : Program} {w : World} {G : Gr} {base : Heap} {f : Addr} {cdv : Value} {A : Around} {outer : List PySem.Env} {s : Shared} {H : Hp} {E : XK} {k k_law_made : Nat} {c_law_made : Ct}   (h_law_made : Has P w G base "_law_made" P_law_made k_law_made c_law_made) (s_law_made : Ct.sized c_law_made P_law_made.length) (l_law_made : k_law_made ≤ k) 
    (hr : Room k (FX P w G base N_law_plus "_law_plus" st_law_plus f (cdv) A outer s H E).A) : PSs (FX P w G base N_law_plus "_law_plus" st_law_plus f (cdv) A outer s H E) (defBody st_law_plus) (tS G (WEx E) (fs_law_plus c_law_made)) := by
  exact (ss_one (s_ret (xfn h_law_made s_law_made hr (by omega) tkF (xcons (xbin (oadd false) (xbin (omul false) (xix (xv 0) xi) (xix (xv 1) xi)) (xbin (omul false) (xix (xv 1) xi) (xix (xv 0) xi))) (xcons (xbin (omul false) (xix (xv 0) xi) (xix (xv 1) xi)) xnil)))))
abbrev st_law_times : Stmt := top 59
abbrev N_law_times : List Str := ["one", "other"]
abbrev P_law_times : List Str := ["one", "other"]
theorem sc_law_times : FnScope N_law_times P_law_times (defScope st_law_times) := ⟨by kernel_rfl, by kernel_rfl, by kernel_rfl, by decide +kernel, by kernel_rfl, by decide +kernel, by decide +kernel⟩
def fs_law_times (c_law_made : Ct) : FS :=
  (retS (callE c_law_made (consF (binE (mulF false) (idxE (varF 0) (int! 0)) (idxE (varF 1) (int! 0))) (consF (binE (mulF false) (idxE (varF 0) (int! 1)) (idxE (varF 1) (int! 1))) nilF))))
theorem body_law_times {P : Program} {w : World} {G : Gr} {base : Heap} {f : Addr} {cdv : Value} {A : Around} {outer : List PySem.Env} {s : Shared} {H : Hp} {E : XK} {k k_law_made : Nat} {c_law_made : Ct}   (h_law_made : Has P w G base "_law_made" P_law_made k_law_made c_law_made) (s_law_made : Ct.sized c_law_made P_law_made.length) (l_law_made : k_law_made ≤ k) 
    (hr : Room k (FX P w G base N_law_times "_law_times" st_law_times f (cdv) A outer s H E).A) : PSs (FX P w G base N_law_times "_law_times" st_law_times f (cdv) A outer s H E) (defBody st_law_times) (tS G (WEx E) (fs_law_times c_law_made)) := by
  exact (ss_one (s_ret (xfn h_law_made s_law_made hr (by omega) tkF (xcons (xbin (omul false) (xix (xv 0) xi) (xix (xv 1) xi)) (xcons (xbin (omul false) (xix (xv 0) xi) (xix (xv 1) xi)) xnil)))))
abbrev st_law_by : Stmt := top 60
abbrev N_law_by : List Str := ["one", "other"]
abbrev P_law_by : List Str := ["one", "other"]
theorem sc_law_by : FnScope N_law_by P_law_by (defScope st_law_by) := ⟨by kernel_rfl, by kernel_rfl, by kernel_rfl, by decide +kernel, by kernel_rfl, by decide +kernel, by decide +kernel⟩
def fs_law_by (c_law_made : Ct) : FS :=
  (retS (callE c_law_made (consF (binE (mulF false) (idxE (varF 0) (int! 0)) (idxE (varF 1) (int! 1))) (consF (binE (mulF false) (idxE (varF 0) (int! 1)) (idxE (varF 1) (int! 0))) nilF))))
theorem body_law_by {P : Program} {w : World} {G : Gr} {base : Heap} {f : Addr} {cdv : Value} {A : Around} {outer : List PySem.Env} {s : Shared} {H : Hp} {E : XK} {k k_law_made : Nat} {c_law_made : Ct}   (h_law_made : Has P w G base "_law_made" P_law_made k_law_made c_law_made) (s_law_made : Ct.sized c_law_made P_law_made.length) (l_law_made : k_law_made ≤ k) 
    (hr : Room k (FX P w G base N_law_by "_law_by" st_law_by f (cdv) A outer s H E).A) : PSs (FX P w G base N_law_by "_law_by" st_law_by f (cdv) A outer s H E) (defBody st_law_by) (tS G (WEx E) (fs_law_by c_law_made)) := by
  exact (ss_one (s_ret (xfn h_law_made s_law_made hr (by omega) tkF (xcons (xbin (omul false) (xix (xv 0) xi) (xix (xv 1) xi)) (xcons (xbin (omul false) (xix (xv 0) xi) (xix (xv 1) xi)) xnil)))))
abbrev st_law_lesser : Stmt := top 71
abbrev N_law_lesser : List Str := ["one", "other"]
abbrev P_law_lesser : List Str := ["one", "other"]
theorem sc_law_lesser : FnScope N_law_lesser P_law_lesser (defScope st_law_lesser) := ⟨by kernel_rfl, by kernel_rfl, by kernel_rfl, by decide +kernel, by kernel_rfl, by decide +kernel, by decide +kernel⟩
def fs_law_lesser (c_law_is_less : Ct) : FS :=
  (retS (iteV (truT (callE c_law_is_less (consF (varF 1) (consF (varF 0) nilF)))) (varF 1) (varF 0)))
theorem body_law_lesser {P : Program} {w : World} {G : Gr} {base : Heap} {f : Addr} {cdv : Value} {A : Around} {outer : List PySem.Env} {s : Shared} {H : Hp} {E : XK} {k k_law_is_less : Nat} {c_law_is_less : Ct}   (h_law_is_less : Has P w G base "_law_is_less" P_law_is_less k_law_is_less c_law_is_less) (s_law_is_less : Ct.sized c_law_is_less P_law_is_less.length) (l_law_is_less : k_law_is_less ≤ k) 
    (hr : Room k (FX P w G base N_law_lesser "_law_lesser" st_law_lesser f (cdv) A outer s H E).A) : PSs (FX P w G base N_law_lesser "_law_lesser" st_law_lesser f (cdv) A outer s H E) (defBody st_law_lesser) (tS G (WEx E) (fs_law_lesser c_law_is_less)) := by
  exact (ss_one (s_ret (xife (tt (xfn h_law_is_less s_law_is_less hr (by omega) tkF (xcons (xv 1) (xcons (xv 0) xnil)))) (xv 1) (xv 0))))
abbrev st_law_greater : Stmt := top 72
abbrev N_law_greater : List Str := ["one", "other"]
abbrev P_law_greater : List Str := ["one", "other"]
theorem sc_law_greater : FnScope N_law_greater P_law_greater (defScope st_law_greater) := ⟨by kernel_rfl, by kernel_rfl, by kernel_rfl, by decide +kernel, by kernel_rfl, by decide +kernel, by decide +kernel⟩
def fs_law_greater (c_law_is_less : Ct) : FS :=
  (retS (iteV (truT (callE c_law_is_less (consF (varF 0) (consF (varF 1) nilF)))) (varF 1) (varF 0)))
theorem body_law_greater {P : Program} {w : World} {G : Gr} {base : Heap} {f : Addr} {cdv : Value} {A : Around} {outer : List PySem.Env} {s : Shared} {H : Hp} {E : XK} {k k_law_is_less : Nat} {c_law_is_less : Ct}   (h_law_is_less : Has P w G base "_law_is_less" P_law_is_less k_law_is_less c_law_is_less) (s_law_is_less : Ct.sized c_law_is_less P_law_is_less.length) (l_law_is_less : k_law_is_less ≤ k) 
    (hr : Room k (FX P w G base N_law_greater "_law_greater" st_law_greater f (cdv) A outer s H E).A) : PSs (FX P w G base N_law_greater "_law_greater" st_law_greater f (cdv) A outer s H E) (defBody st_law_greater) (tS G (WEx E) (fs_law_greater c_law_is_less)) := by
  exact (ss_one (s_ret (xife (tt (xfn h_law_is_less s_law_is_less hr (by omega) tkF (xcons (xv 0) (xcons (xv 1) xnil)))) (xv 1) (xv 0))))
abbrev st_law_hull : Stmt := top 70
abbrev N_law_hull : List Str := ["values", "low", "high", "own"]
abbrev P_law_hull : List Str := ["values"]
theorem sc_law_hull : FnScope N_law_hull P_law_hull (defScope st_law_hull) := ⟨by kernel_rfl, by kernel_rfl, by kernel_rfl, by decide +kernel, by kernel_rfl, by decide +kernel, by decide +kernel⟩
def fs_law_hull (c_law_is_less : Ct) : FS :=
  (seqS (parS 1 2 (consF (idxE (varF 0) (int! 0)) (consF (idxE (varF 0) (int! 0)) nilF)))
    (seqS (forS (itE (varF 0)) (.name 3) (seqS (setS 1 (iteV (truT (callE c_law_is_less (consF (varF 3) (consF (varF 1) nilF)))) (varF 3) (varF 1)))
    (setS 2 (iteV (truT (callE c_law_is_less (consF (varF 2) (consF (varF 3) nilF)))) (varF 3) (varF 2)))))
    (retS (tupE (consF (varF 1) (consF (varF 2) nilF))))))
theorem body_law_hull {P : Program} {w : World} {G : Gr} {base : Heap} {f : Addr} {cdv : Value} {A : Around} {outer : List PySem.Env} {s : Shared} {H : Hp} {E : XK} {k k_law_is_less : Nat} {c_law_is_less : Ct}   (h_law_is_less : Has P w G base "_law_is_less" P_law_is_less k_law_is_less c_law_is_less) (s_law_is_less : Ct.sized c_law_is_less P_law_is_less.length) (l_law_is_less : k_law_is_less ≤ k) 
    (hr : Room k (FX P w G base N_law_hull "_law_hull" st_law_hull f (cdv) A outer s H E).A) : PSs (FX P w G base N_law_hull "_law_hull" st_law_hull f (cdv) A outer s H E) (defBody st_law_hull) (tS G (WEx E) (fs_law_hull c_law_is_less)) := by
  exact (ss_cons (spar 1 2 sc_law_hull.nd (xcons (xix (xv 0) xi) (xcons (xix (xv 0) xi) xnil)))
    (ss_cons (sfor poF (ival (xv 0)) (gname 3 sc_law_hull.nd) (ss_cons (sset 1 sc_law_hull.nd (xife (tt (xfn h_law_is_less s_law_is_less hr (by omega) tkF (xcons (xv 3) (xcons (xv 1) xnil)))) (xv 3) (xv 1)))
    (ss_one (sset 2 sc_law_hull.nd (xife (tt (xfn h_law_is_less s_law_is_less hr (by omega) tkF (xcons (xv 2) (xcons (xv 3) xnil)))) (xv 3) (xv 2))))))
    (ss_one (s_ret (xtup (xcons (xv 1) (xcons (xv 2) xnil)))))))
abbrev st_law_pairs : Stmt := top 74
abbrev N_law_pairs : List Str := ["one", "other", "rule", "found", "left", "right"]
abbrev P_law_pairs : List Str := ["one", "other", "rule"]
theorem sc_law_pairs : FnScope N_law_pairs P_law_pairs (defScope st_law_pairs) := ⟨by kernel_rfl, by kernel_rfl, by kernel_rfl, by decide +kernel, by kernel_rfl, by decide +kernel, by decide +kernel⟩
def fs_law_pairs (tb : List (Str × Ct)) (c_law_hull : Ct) : FS :=
  (seqS (setS 3 (lstE false nilF))
    (seqS (forS (itE (varF 0)) (.name 4) (setS 3 (binE (addF false) (varF 3) (compF false (itE (varF 1)) (.name 5) (retF true) (vcallE tb 2 (consF (varF 4) (consF (varF 5) nilF))) ([("right", 5)].map (·.2))))))
    (retS (callE c_law_hull (consF (varF 3) nilF)))))
theorem body_law_pairs {P : Program} {w : World} {G : Gr} {base : Heap} {f : Addr} {cdv : Value} {A : Around} {outer : List PySem.Env} {s : Shared} {H : Hp} {E : XK} {k k_law_hull : Nat} {c_law_hull : Ct} {tb : List (Str × Ct)} {kt : Nat} (htb : VTab P w G base kt tb) (lt : kt ≤ k)  (h_law_hull : Has P w G base "_law_hull" P_law_hull k_law_hull c_law_hull) (s_law_hull : Ct.sized c_law_hull P_law_hull.length) (l_law_hull : k_law_hull ≤ k) 
    (hr : Room k (FX P w G base N_law_pairs "_law_pairs" st_law_pairs f (cdv) A outer s H E).A) : PSs (FX P w G base N_law_pairs "_law_pairs" st_law_pairs f (cdv) A outer s H E) (defBody st_law_pairs) (tS G (WEx E) (fs_law_pairs tb c_law_hull)) := by
  exact (ss_cons (sset 3 sc_law_pairs.nd (xlst false xnil))
    (ss_cons (sfor poF (ival (xv 0)) (gname 4 sc_law_pairs.nd) (ss_one (sset 3 sc_law_pairs.nd (xbin (oadd false) (xv 3) (xlc false [("right", 5)] sc_law_pairs.nd (ival (xv 1)) (gnameF 5 (fun _ => sc_law_pairs.nd)) (fun _ => ts_nil) (fun _ => (xvcall 2 htb hr (by omega) LamX.takes0 (xcons (xv 4) (xcons (xv 5) xnil)))))))))
    (ss_one (s_ret (xfn h_law_hull s_law_hull hr (by omega) tkF (xcons (xv 3) xnil))))))
abbrev st_law_two_right : Stmt := top 75
abbrev N_law_two_right : List Str := ["one", "other", "minus_v", "told", "due"]
abbrev P_law_two_right : List Str := ["one", "other"]
theorem sc_law_two_right : FnScope N_law_two_right P_law_two_right (defScope st_law_two_right) := ⟨by kernel_rfl, by kernel_rfl, by kernel_rfl, by decide +kernel, by kernel_rfl, by decide +kernel, by decide +kernel⟩
def fs_law_two_right (c_law_minus cmost_of cleast_of cproduct_of cdifference_of csum_of c_law_pairs c_law_same c_law_in cquotient_of : Ct) : FS :=
  (seqS (setS 2 (tupE (consF (callE c_law_minus (consF (idxE (varF 1) (int! 1)) nilF)) (consF (callE c_law_minus (consF (idxE (varF 1) (int! 0)) nilF)) nilF))))
    (seqS (setS 3 (lstE false (consF (callE csum_of (consF (varF 0) (consF (varF 1) nilF))) (consF (callE cdifference_of (consF (varF 0) (consF (varF 1) nilF))) (consF (callE cproduct_of (consF (varF 0) (consF (varF 1) nilF))) (consF (callE cleast_of (consF (varF 0) (consF (varF 1) nilF))) (consF (callE cmost_of (consF (varF 0) (consF (varF 1) nilF))) nilF)))))))
    (seqS (setS 4 (lstE false (consF (callE c_law_pairs (consF (varF 0) (consF (varF 1) (consF (retF (.gl "_law_plus")) nilF)))) (consF (callE c_law_pairs (consF (varF 0) (consF (varF 2) (consF (retF (.gl "_law_plus")) nilF)))) (consF (callE c_law_pairs (consF (varF 0) (consF (varF 1) (consF (retF (.gl "_law_times")) nilF)))) nilF)))))
    (seqS (setS 4 (binE (addF false) (varF 4) (lstE false (consF (callE c_law_pairs (consF (varF 0) (consF (varF 1) (consF (retF (.gl "_law_lesser")) nilF)))) (consF (callE c_law_pairs (consF (varF 0) (consF (varF 1) (consF (retF (.gl "_law_greater")) nilF)))) nilF)))))
    (seqS (ifS (notF (truT (callE c_law_same (consF (varF 3) (consF (varF 4) nilF))))) (retS (bl! false)) nilS)
    (seqS (ifS (truT (callE c_law_in (consF (varF 1) (consF (tupE (consF (int! 0) (consF (int! 1) nilF))) nilF)))) (retS (binE isG (callE cquotient_of (consF (varF 0) (consF (varF 1) nilF))) non!)) nilS)
    (retS (callE c_law_same (consF (callE cquotient_of (consF (varF 0) (consF (varF 1) nilF))) (consF (callE c_law_pairs (consF (varF 0) (consF (varF 1) (consF (retF (.gl "_law_by")) nilF)))) nilF))))))))))
theorem body_law_two_right {P : Program} {w : World} {G : Gr} {base : Heap} {f : Addr} {cdv : Value} {A : Around} {outer : List PySem.Env} {s : Shared} {H : Hp} {E : XK} {k k_law_minus kmost_of kleast_of kproduct_of kdifference_of ksum_of k_law_pairs k_law_same k_law_in kquotient_of : Nat} {c_law_minus cmost_of cleast_of cproduct_of cdifference_of csum_of c_law_pairs c_law_same c_law_in cquotient_of : Ct}  (g__law_times : G.mg "_law_times" = some (.ref (He.ga G.K "_law_times"))) (g__law_plus : G.mg "_law_plus" = some (.ref (He.ga G.K "_law_plus"))) (g__law_greater : G.mg "_law_greater" = some (.ref (He.ga G.K "_law_greater"))) (g__law_lesser : G.mg "_law_lesser" = some (.ref (He.ga G.K "_law_lesser"))) (g__law_by : G.mg "_law_by" = some (.ref (He.ga G.K "_law_by"))) (h_law_minus : Has P w G base "_law_minus" P_law_minus k_law_minus c_law_minus) (s_law_minus : Ct.sized c_law_minus P_law_minus.length) (l_law_minus : k_law_minus ≤ k) (hmost_of : Has P w G base "most_of" Pmost_of kmost_of cmost_of) (smost_of : Ct.sized cmost_of Pmost_of.length) (lmost_of : kmost_of ≤ k) (hleast_of : Has P w G base "least_of" Pleast_of kleast_of cleast_of) (sleast_of : Ct.sized cleast_of Pleast_of.length) (lleast_of : kleast_of ≤ k) (hproduct_of : Has P w G base "product_of" Pproduct_of kproduct_of cproduct_of) (sproduct_of : Ct.sized cproduct_of Pproduct_of.length) (lproduct_of : kproduct_of ≤ k) (hdifference_of : Has P w G base "difference_of" Pdifference_of kdifference_of cdifference_of) (sdifference_of : Ct.sized cdifference_of Pdifference_of.length) (ldifference_of : kdifference_of ≤ k) (hsum_of : Has P w G base "sum_of" Psum_of ksum_of csum_of) (ssum_of : Ct.sized csum_of Psum_of.length) (lsum_of : ksum_of ≤ k) (h_law_pairs : Has P w G base "_law_pairs" P_law_pairs k_law_pairs c_law_pairs) (s_law_pairs : Ct.sized c_law_pairs P_law_pairs.length) (l_law_pairs : k_law_pairs ≤ k) (h_law_same : HasG P w G base "_law_same" P_law_same k_law_same c_law_same) (s_law_same : Ct.sized c_law_same P_law_same.length) (l_law_same : k_law_same ≤ k) (h_law_in : Has P w G base "_law_in" P_law_in k_law_in c_law_in) (s_law_in : Ct.sized c_law_in P_law_in.length) (l_law_in : k_law_in ≤ k) (hquotient_of : Has P w G base "quotient_of" Pquotient_of kquotient_of cquotient_of) (squotient_of : Ct.sized cquotient_of Pquotient_of.length) (lquotient_of : kquotient_of ≤ k) (hgd : A.guards = some []) 
    (hr : Room k (FX P w G base N_law_two_right "_law_two_right" st_law_two_right f (cdv) A outer s H E).A) : PSs (FX P w G base N_law_two_right "_law_two_right" st_law_two_right f (cdv) A outer s H E) (defBody st_law_two_right) (tS G (WEx E) (fs_law_two_right c_law_minus cmost_of cleast_of cproduct_of cdifference_of csum_of c_law_pairs c_law_same c_law_in cquotient_of)) := by
  exact (ss_cons (sset 2 sc_law_two_right.nd (xtup (xcons (xfn h_law_minus s_law_minus hr (by omega) tkF (xcons (xix (xv 1) xi) xnil)) (xcons (xfn h_law_minus s_law_minus hr (by omega) tkF (xcons (xix (xv 1) xi) xnil)) xnil))))
    (ss_cons (sset 3 sc_law_two_right.nd (xlst false (xcons (xfn hsum_of ssum_of hr (by omega) tkF (xcons (xv 0) (xcons (xv 1) xnil))) (xcons (xfn hdifference_of sdifference_of hr (by omega) tkF (xcons (xv 0) (xcons (xv 1) xnil))) (xcons (xfn hproduct_of sproduct_of hr (by omega) tkF (xcons (xv 0) (xcons (xv 1) xnil))) (xcons (xfn hleast_of sleast_of hr (by omega) tkF (xcons (xv 0) (xcons (xv 1) xnil))) (xcons (xfn hmost_of smost_of hr (by omega) tkF (xcons (xv 0) (xcons (xv 1) xnil))) xnil)))))))
    (ss_cons (sset 4 sc_law_two_right.nd (xlst false (xcons (xfn h_law_pairs s_law_pairs hr (by omega) tkF (xcons (xv 0) (xcons (xv 1) (xcons (xgl g__law_plus) xnil)))) (xcons (xfn h_law_pairs s_law_pairs hr (by omega) tkF (xcons (xv 0) (xcons (xv 2) (xcons (xgl g__law_plus) xnil)))) (xcons (xfn h_law_pairs s_law_pairs hr (by omega) tkF (xcons (xv 0) (xcons (xv 1) (xcons (xgl g__law_times) xnil)))) xnil)))))
    (ss_cons (sset 4 sc_law_two_right.nd (xbin (oadd false) (xv 4) (xlst false (xcons (xfn h_law_pairs s_law_pairs hr (by omega) tkF (xcons (xv 0) (xcons (xv 1) (xcons (xgl g__law_lesser) xnil)))) (xcons (xfn h_law_pairs s_law_pairs hr (by omega) tkF (xcons (xv 0) (xcons (xv 1) (xcons (xgl g__law_greater) xnil)))) xnil)))))
    (ss_cons (s_if (tnot (tt (xfnG hgd h_law_same s_law_same hr (by omega) tkF (xcons (xv 3) (xcons (xv 4) xnil))))) (ss_one (s_ret xb)) ss_nil)
    (ss_cons (s_if (tt (xfn h_law_in s_law_in hr (by omega) tkF (xcons (xv 1) (xcons (xtup (xcons xi (xcons xi xnil))) xnil)))) (ss_one (s_ret (xcmp ois (xfn hquotient_of squotient_of hr (by omega) tkF (xcons (xv 0) (xcons (xv 1) xnil))) xn))) ss_nil)
    (ss_one (s_ret (xfnG hgd h_law_same s_law_same hr (by omega) tkF (xcons (xfn hquotient_of squotient_of hr (by omega) tkF (xcons (xv 0) (xcons (xv 1) xnil))) (xcons (xfn h_law_pairs s_law_pairs hr (by omega) tkF (xcons (xv 0) (xcons (xv 1) (xcons (xgl g__law_by) xnil)))) xnil)))))))))))
abbrev st_law_raised : Stmt := top 73
abbrev N_law_raised : List Str := ["one", "many", "found", "turn"]
abbrev P_law_raised : List Str := ["one", "many"]
theorem sc_law_raised : FnScope N_law_raised P_law_raised (defScope st_law_raised) := ⟨by kernel_rfl, by kernel_rfl, by kernel_rfl, by decide +kernel, by kernel_rfl, by decide +kernel, by decide +kernel⟩
def fs_law_raised (c_law_times : Ct) : FS :=
  (seqS (setS 2 (tupE (consF (int! 1) (consF (int! 1) nilF))))
    (seqS (forS (bindF (consF (varF 1) nilF) rng1) (.name 3) (setS 2 (callE c_law_times (consF (varF 2) (consF (varF 0) nilF)))))
    (retS (varF 2))))
theorem body_law_raised {P : Program} {w : World} {G : Gr} {base : Heap} {f : Addr} {cdv : Value} {A : Around} {outer : List PySem.Env} {s : Shared} {H : Hp} {E : XK} {k k_law_times : Nat} {c_law_times : Ct}  (b_range : G.mg "range" = none) (h_law_times : Has P w G base "_law_times" P_law_times k_law_times c_law_times) (s_law_times : Ct.sized c_law_times P_law_times.length) (l_law_times : k_law_times ≤ k) 
    (hr : Room k (FX P w G base N_law_raised "_law_raised" st_law_raised f (cdv) A outer s H E).A) : PSs (FX P w G base N_law_raised "_law_raised" st_law_raised f (cdv) A outer s H E) (defBody st_law_raised) (tS G (WEx E) (fs_law_raised c_law_times)) := by
  exact (ss_cons (sset 2 sc_law_raised.nd (xtup (xcons xi (xcons xi xnil))))
    (ss_cons (sfor poF (irng1 b_range (xcons (xv 1) xnil)) (gname 3 sc_law_raised.nd) (ss_one (sset 2 sc_law_raised.nd (xfn h_law_times s_law_times hr (by omega) tkF (xcons (xv 2) (xcons (xv 0) xnil))))))
    (ss_one (s_ret (xv 2)))))
abbrev st_law_one_right : Stmt := top 76
abbrev N_law_one_right : List Str := ["one", "many", "zero", "amounts", "powers", "told", "own"]
abbrev P_law_one_right : List Str := ["one", "many"]
theorem sc_law_one_right : FnScope N_law_one_right P_law_one_right (defScope st_law_one_right) := ⟨by kernel_rfl, by kernel_rfl, by kernel_rfl, by decide +kernel, by kernel_rfl, by decide +kernel, by decide +kernel⟩
def fs_law_one_right (c_law_in c_law_raised cpower_of camount_of cminus_of c_law_same c_law_hull c_law_minus : Ct) : FS :=
  (seqS (setS 2 (iteV (truT (callE c_law_in (consF (varF 0) (consF (tupE (consF (int! 0) (consF (int! 1) nilF))) nilF)))) (lstE false (consF (tupE (consF (int! 0) (consF (int! 1) nilF))) nilF)) (lstE false nilF)))
    (seqS (setS 3 (binE (addF false) (compF false (itE (varF 0)) (.name 6) (retF true) (tupE (consF (biE absB (consF (idxE (varF 6) (int! 0)) nilF)) (consF (idxE (varF 6) (int! 1)) nilF))) ([("own", 6)].map (·.2))) (varF 2)))
    (seqS (setS 4 (compF false (itE (binE (addF false) (biE (lstB false) (consF (varF 0) nilF)) (varF 2))) (.name 6) (retF true) (callE c_law_raised (consF (varF 6) (consF (varF 1) nilF))) ([("own", 6)].map (·.2))))
    (seqS (setS 5 (lstE false (consF (callE cminus_of (consF (varF 0) nilF)) (consF (callE camount_of (consF (varF 0) nilF)) (consF (callE cpower_of (consF (varF 0) (consF (varF 1) nilF))) nilF)))))
    (retS (callE c_law_same (consF (varF 5) (consF (lstE false (consF (tupE (consF (callE c_law_minus (consF (idxE (varF 0) (int! 1)) nilF)) (consF (callE c_law_minus (consF (idxE (varF 0) (int! 0)) nilF)) nilF))) (consF (callE c_law_hull (consF (varF 3) nilF)) (consF (callE c_law_hull (consF (varF 4) nilF)) nilF)))) nilF))))))))
theorem body_law_one_right {P : Program} {w : World} {G : Gr} {base : Heap} {f : Addr} {cdv : Value} {A : Around} {outer : List PySem.Env} {s : Shared} {H : Hp} {E : XK} {k k_law_in k_law_raised kpower_of kamount_of kminus_of k_law_same k_law_hull k_law_minus : Nat} {c_law_in c_law_raised cpower_of camount_of cminus_of c_law_same c_law_hull c_law_minus : Ct}  (b_abs : G.mg "abs" = none) (b_list : G.mg "list" = none) (h_law_in : Has P w G base "_law_in" P_law_in k_law_in c_law_in) (s_law_in : Ct.sized c_law_in P_law_in.length) (l_law_in : k_law_in ≤ k) (h_law_raised : Has P w G base "_law_raised" P_law_raised k_law_raised c_law_raised) (s_law_raised : Ct.sized c_law_raised P_law_raised.length) (l_law_raised : k_law_raised ≤ k) (hpower_of : Has P w G base "power_of" Ppower_of kpower_of cpower_of) (spower_of : Ct.sized cpower_of Ppower_of.length) (lpower_of : kpower_of ≤ k) (hamount_of : Has P w G base "amount_of" Pamount_of kamount_of camount_of) (samount_of : Ct.sized camount_of Pamount_of.length) (lamount_of : kamount_of ≤ k) (hminus_of : Has P w G base "minus_of" Pminus_of kminus_of cminus_of) (sminus_of : Ct.sized cminus_of Pminus_of.length) (lminus_of : kminus_of ≤ k) (h_law_same : HasG P w G base "_law_same" P_law_same k_law_same c_law_same) (s_law_same : Ct.sized c_law_same P_law_same.length) (l_law_same : k_law_same ≤ k) (h_law_hull : Has P w G base "_law_hull" P_law_hull k_law_hull c_law_hull) (s_law_hull : Ct.sized c_law_hull P_law_hull.length) (l_law_hull : k_law_hull ≤ k) (h_law_minus : Has P w G base "_law_minus" P_law_minus k_law_minus c_law_minus) (s_law_minus : Ct.sized c_law_minus P_law_minus.length) (l_law_minus : k_law_minus ≤ k) (hgd : A.guards = some []) 
    (hr : Room k (FX P w G base N_law_one_right "_law_one_right" st_law_one_right f (cdv) A outer s H E).A) : PSs (FX P w G base N_law_one_right "_law_one_right" st_law_one_right f (cdv) A outer s H E) (defBody st_law_one_right) (tS G (WEx E) (fs_law_one_right c_law_in c_law_raised cpower_of camount_of cminus_of c_law_same c_law_hull c_law_minus)) := by
  exact (ss_cons (sset 2 sc_law_one_right.nd (xife (tt (xfn h_law_in s_law_in hr (by omega) tkF (xcons (xv 0) (xcons (xtup (xcons xi (xcons xi xnil))) xnil)))) (xlst false (xcons (xtup (xcons xi (xcons xi xnil))) xnil)) (xlst false xnil)))
    (ss_cons (sset 3 sc_law_one_right.nd (xbin (oadd false) (xlc false [("own", 6)] sc_law_one_right.nd (ival (xv 0)) (gnameF 6 (fun _ => sc_law_one_right.nd)) (fun _ => ts_nil) (fun _ => (xtup (xcons (xcB bf_abs b_abs (xcons (xix (xv 6) xi) xnil)) (xcons (xix (xv 6) xi) xnil))))) (xv 2)))
    (ss_cons (ssetlc 4 false [("own", 6)] sc_law_one_right.nd (ival (xbin (oadd false) (xcT (bf_lst rfl false) b_list (xcons (xv 0) xnil)) (xv 2))) (gnameF 6 (fun _ => sc_law_one_right.nd)) (fun _ => ts_nil) (fun _ => (xfn h_law_raised s_law_raised hr (by omega) LamX.takes0 (xcons (xv 6) (xcons (xv 1) xnil)))))
    (ss_cons (sset 5 sc_law_one_right.nd (xlst false (xcons (xfn hminus_of sminus_of hr (by omega) tkF (xcons (xv 0) xnil)) (xcons (xfn hamount_of samount_of hr (by omega) tkF (xcons (xv 0) xnil)) (xcons (xfn hpower_of spower_of hr (by omega) tkF (xcons (xv 0) (xcons (xv 1) xnil))) xnil)))))
    (ss_one (s_ret (xfnG hgd h_law_same s_law_same hr (by omega) tkF (xcons (xv 5) (xcons (xlst false (xcons (xtup (xcons (xfn h_law_minus s_law_minus hr (by omega) tkF (xcons (xix (xv 0) xi) xnil)) (xcons (xfn h_law_minus s_law_minus hr (by omega) tkF (xcons (xix (xv 0) xi) xnil)) xnil))) (xcons (xfn h_law_hull s_law_hull hr (by omega) tkF (xcons (xv 3) xnil)) (xcons (xfn h_law_hull s_law_hull hr (by omega) tkF (xcons (xv 4) xnil)) xnil)))) xnil)))))))))
abbrev st_law_error : Stmt := top 62
abbrev N_law_error : List Str := ["call"]
theorem sc_law_error : FnScope N_law_error ["call"] (defScope st_law_error) := ⟨by kernel_rfl, by kernel_rfl, by kernel_rfl, by decide +kernel, by kernel_rfl, by decide +kernel, by decide +kernel⟩
abbrev hs_law_error : List (Str × Str) := [("InvalidStretch", "stretch"), ("InvalidFraction", "fraction"), ("InvalidNumber", "number"), ("InvalidTree", "tree"), ("NearError", "other")]
def w_law_error (x : Str) : Option Str := List.lookup x ([("NearError", "other"), ("InvalidFraction", "fraction"), ("InvalidTree", "tree"), ("InvalidStretch", "stretch"), ("InvalidNumber", "number")] : List (Str × Str))
theorem tell_law_error {X : Cx} {g : Addr} {cdv : Value} {q : Str} (hc : ∀ z ∈ hs_law_error, X.mg z.1 = some (.ref (He.ga X.K z.1))) : LamX.GivesTo X N_law_error "_law_error" (defScope st_law_error) g cdv (defBody st_law_error) "call" q (TTm X.K (hdl X.K hs_law_error) "") :=
  gives_many (l := hdl X.K hs_law_error) (fun s H => (.cons (by unfold Gl; kernel_rfl) (by kernel_rfl) (hc ("InvalidStretch", "stretch") (List.Mem.head _)) (.cons (by unfold Gl; kernel_rfl) (by kernel_rfl) (hc ("InvalidFraction", "fraction") (List.Mem.tail _ (List.Mem.head _))) (.cons (by unfold Gl; kernel_rfl) (by kernel_rfl) (hc ("InvalidNumber", "number") (List.Mem.tail _ (List.Mem.tail _ (List.Mem.head _)))) (.cons (by unfold Gl; kernel_rfl) (by kernel_rfl) (hc ("InvalidTree", "tree") (List.Mem.tail _ (List.Mem.tail _ (List.Mem.tail _ (List.Mem.head _))))) (.cons (by unfold Gl; kernel_rfl) (by kernel_rfl) (hc ("NearError", "other") (List.Mem.tail _ (List.Mem.tail _ (List.Mem.tail _ (List.Mem.tail _ (List.Mem.head _)))))) .nil)))))) (fun f => by kernel_rfl) (fun env => by kernel_rfl)
abbrev stlaw : Stmt := top 77
abbrev Nlaw : List Str := ["script", "cup", "turn", "one", "other", "wide", "unit", "zero", "told", "due", "great", "odd", "words", "call", "ask", "own"]
abbrev Plaw : List Str := ["script"]
theorem sclaw : FnScope Nlaw Plaw (defScope stlaw) := ⟨by kernel_rfl, by kernel_rfl, by kernel_rfl, by decide +kernel, by kernel_rfl, by decide +kernel, by decide +kernel⟩
def fslaw_0 (c_law_stretch c_law_two_right c_law_one_right c_law_roll : Ct) : FS :=
  (forS (bindF (consF (int! 3) nilF) rng1) (.name 2) (seqS (parS 3 4 (consF (callE c_law_stretch (consF (varF 1) nilF)) (consF (callE c_law_stretch (consF (varF 1) nilF)) nilF)))
    (ifS (orF (notF (truT (callE c_law_two_right (consF (varF 3) (consF (varF 4) nilF))))) (orF (notF (truT (callE c_law_one_right (consF (varF 3) (consF (callE c_law_roll (consF (varF 1) (consF (int! 13) nilF))) nilF))))) (notF (truT (callE c_law_one_right (consF (varF 4) (consF (int! 2) nilF))))))) (retS (bl! false)) nilS)))
def fslaw_1 : FS :=
  (asgS (.tup [(.name 5), (.name 6), (.name 7)]) (tupE (consF (tupE (consF (tupE (consF (negE (int! 3)) (consF (int! 2) nilF))) (consF (tupE (consF (int! 1) (consF (int! 2) nilF))) nilF))) (consF (tupE (consF (tupE (consF (int! 1) (consF (int! 1) nilF))) (consF (tupE (consF (int! 1) (consF (int! 1) nilF))) nilF))) (consF (tupE (consF (tupE (consF (int! 0) (consF (int! 1) nilF))) (consF (tupE (consF (int! 0) (consF (int! 1) nilF))) nilF))) nilF)))))
def fslaw_2 (cpower_of camount_of : Ct) : FS :=
  (setS 8 (lstE false (consF (callE cpower_of (consF (varF 5) (consF (int! 2) nilF))) (consF (callE cpower_of (consF (varF 5) (consF (int! 3) nilF))) (consF (callE cpower_of (consF (varF 7) (consF (int! 0) nilF))) (consF (callE camount_of (consF (varF 5) nilF)) nilF))))))
def fslaw_3 (cquotient_of cproduct_of : Ct) : FS :=
  (setS 8 (binE (addF false) (varF 8) (lstE false (consF (callE cquotient_of (consF (varF 6) (consF (varF 7) nilF))) (consF (callE cquotient_of (consF (varF 7) (consF (varF 6) nilF))) (consF (callE cproduct_of (consF (varF 5) (consF (varF 5) nilF))) nilF))))))
def fslaw_4 : FS :=
  (setS 9 (lstE false (consF (tupE (consF (tupE (consF (int! 0) (consF (int! 1) nilF))) (consF (tupE (consF (int! 9) (consF (int! 4) nilF))) nilF))) (consF (tupE (consF (tupE (consF (negE (int! 27)) (consF (int! 8) nilF))) (consF (tupE (consF (int! 1) (consF (int! 8) nilF))) nilF))) (consF (varF 6) (consF (tupE (consF (tupE (consF (int! 0) (consF (int! 1) nilF))) (consF (tupE (consF (int! 3) (consF (int! 2) nilF))) nilF))) (consF non! (consF (varF 7) (consF (tupE (consF (tupE (consF (negE (int! 3)) (consF (int! 4) nilF))) (consF (tupE (consF (int! 9) (consF (int! 4) nilF))) nilF))) nilF)))))))))
def fslaw_5 (c_law_same cpower_of : Ct) : FS :=
  (ifS (orF (notF (truT (callE c_law_same (consF (varF 8) (consF (varF 9) nilF))))) (notF (truT (callE c_law_same (consF (callE cpower_of (consF (tupE (consF (tupE (consF (negE (int! 2)) (consF (int! 1) nilF))) (consF (tupE (consF (int! 3) (consF (int! 1) nilF))) nilF))) (consF (int! 12) nilF))) (consF (tupE (consF (tupE (consF (int! 0) (consF (int! 1) nilF))) (consF (tupE (consF (int! 531441) (consF (int! 1) nilF))) nilF))) nilF)))))) (retS (bl! false)) nilS)
def fslaw_6 : FS :=
  (setS 10 (tupE (consF (tupE (consF (int! 0) (consF (int! 1) nilF))) (consF (tupE (consF (binE powG (int! 10) (int! 13)) (consF (int! 1) nilF))) nilF))))
def fslaw_7 (c_law_same cpower_of cminus_of : Ct) : FS :=
  (ifS (notF (truT (callE c_law_same (consF (lstE false (consF (callE cpower_of (consF (tupE (consF (tupE (consF (int! 2) (consF (int! 1) nilF))) (consF (tupE (consF (int! 2) (consF (int! 1) nilF))) nilF))) (consF (int! 7) nilF))) (consF (callE cminus_of (consF (varF 10) nilF)) nilF))) (consF (lstE false (consF (tupE (consF (tupE (consF (int! 128) (consF (int! 1) nilF))) (consF (tupE (consF (int! 128) (consF (int! 1) nilF))) nilF))) (consF (tupE (consF (tupE (consF (negE (binE powG (int! 10) (int! 13))) (consF (int! 1) nilF))) (consF (tupE (consF (int! 0) (consF (int! 1) nilF))) nilF))) nilF))) nilF))))) (retS (bl! false)) nilS)
def fslaw_8 (c_law_two_right c_law_one_right : Ct) : FS :=
  (ifS (orF (notF (truT (callE c_law_two_right (consF (varF 10) (consF (tupE (consF (tupE (consF (int! 1) (consF (binE powG (int! 10) (int! 13)) nilF))) (consF (tupE (consF (int! 3) (consF (int! 1) nilF))) nilF))) nilF))))) (notF (truT (callE c_law_one_right (consF (varF 10) (consF (int! 3) nilF)))))) (retS (bl! false)) nilS)
def fslaw_9 : FS :=
  (setS 11 (lstE false (consF non! (consF (tupE nilF) (consF (tupE (consF (int! 1) (consF (int! 2) nilF))) (consF (tupE (consF (tupE (consF (int! 1) (consF (int! 2) nilF))) (consF (tupE (consF (int! 1) (consF (int! 3) nilF))) nilF))) (consF (lstE false (consF (tupE (consF (int! 0) (consF (int! 1) nilF))) (consF (tupE (consF (int! 1) (consF (int! 1) nilF))) nilF))) (consF (tupE (consF (tupE (consF (int! 0) (consF (int! 2) nilF))) (consF (tupE (consF (int! 1) (consF (int! 1) nilF))) nilF))) (consF (tupE (consF (tupE (consF (int! 0) (consF (int! 1) nilF))) (consF (tupE (consF (int! 1) (consF (int! 0) nilF))) nilF))) (consF (tupE (consF (tupE (consF (bl! true) (consF (int! 1) nilF))) (consF (tupE (consF (int! 2) (consF (int! 1) nilF))) nilF))) (consF (tupE (consF (tupE (consF (int! 0) (consF (int! 1) nilF))) nilF)) nilF)))))))))))
def fslaw_10 (tb : List (Str × Ct)) : FS :=
  (forS (itE (tupE (consF (retF (.gl "sum_of")) (consF (retF (.gl "difference_of")) (consF (retF (.gl "product_of")) (consF (retF (.gl "quotient_of")) (consF (retF (.gl "least_of")) (consF (retF (.gl "most_of")) nilF)))))))) (.name 13) (seqS (setS 12 (binE (addF false) (varF 12) (compF false (itE (slcE false (varF 11) noF (someI (int! 2)))) (.name 15) (retF true) (lamF w_law_error "" (vcallE tb 13 (consF (varF 15) (consF non! nilF)))) ([("own", 15)].map (·.2)))))
    (setS 12 (binE (addF false) (varF 12) (compF false (itE (varF 11)) (.name 15) (retF true) (lamF w_law_error "" (vcallE tb 13 (consF (varF 6) (consF (varF 15) nilF)))) ([("own", 15)].map (·.2)))))))
def fslaw_11 (tb : List (Str × Ct)) : FS :=
  (forS (itE (tupE (consF (retF (.gl "minus_of")) (consF (retF (.gl "amount_of")) nilF)))) (.name 14) (setS 12 (binE (addF false) (varF 12) (compF false (itE (varF 11)) (.name 15) (retF true) (lamF w_law_error "" (vcallE tb 14 (consF (varF 15) nilF))) ([("own", 15)].map (·.2))))))
def fslaw_12 (cpower_of : Ct) : FS :=
  (setS 12 (binE (addF false) (varF 12) (compF false (itE (slcE false (varF 11) noF (someI (int! 3)))) (.name 15) (retF true) (lamF w_law_error "" (callE cpower_of (consF (varF 15) (consF non! nilF)))) ([("own", 15)].map (·.2)))))
def fslaw_13 (cpower_of : Ct) : FS :=
  (setS 12 (binE (addF false) (varF 12) (compF false (itE (tupE (consF non! (consF (negE (int! 1)) (consF (int! 13) (consF (bl! true) nilF)))))) (.name 15) (retF true) (lamF w_law_error "" (callE cpower_of (consF (varF 6) (consF (varF 15) nilF)))) ([("own", 15)].map (·.2)))))
def fslaw_14 : FS :=
  (retS (binE eqG (varF 12) (binE (addF false) (binE (mulF false) (lstE false (consF (str! "stretch") nilF)) (binE (addF false) (binE (addF false) (int! 12) (binE (mulF false) (int! 8) (biE lenB (consF (varF 11) nilF)))) (int! 3))) (binE (mulF false) (lstE false (consF (str! "number") nilF)) (int! 4)))))
def fslaw (tb : List (Str × Ct)) (c_law_cup c_law_stretch c_law_two_right c_law_one_right c_law_roll camount_of cpower_of cproduct_of cquotient_of c_law_same cminus_of : Ct) : FS :=
  (seqS (setS 1 (callE c_law_cup (consF (varF 0) nilF)))
    (seqS (fslaw_0 c_law_stretch c_law_two_right c_law_one_right c_law_roll)
    (seqS fslaw_1
    (seqS (fslaw_2 cpower_of camount_of)
    (seqS (fslaw_3 cquotient_of cproduct_of)
    (seqS fslaw_4
    (seqS (fslaw_5 c_law_same cpower_of)
    (seqS fslaw_6
    (seqS (fslaw_7 c_law_same cpower_of cminus_of)
    (seqS (fslaw_8 c_law_two_right c_law_one_right)
    (seqS fslaw_9
    (seqS (setS 12 (lstE false nilF))
    (seqS (fslaw_10 tb)
    (seqS (fslaw_11 tb)
    (seqS (fslaw_12 cpower_of)
    (seqS (fslaw_13 cpower_of)
    fslaw_14))))))))))))))))
theorem bodylaw {P : Program} {w : World} {G : Gr} {base : Heap} {f : Addr} {cc PT : Addr} {A : Around} {outer : List PySem.Env} {s : Shared} {H : Hp} {E : XK} {k k_law_cup k_law_stretch k_law_two_right k_law_one_right k_law_roll kamount_of kpower_of kproduct_of kquotient_of k_law_same kminus_of : Nat} {c_law_cup c_law_stretch c_law_two_right c_law_one_right c_law_roll camount_of cpower_of cproduct_of cquotient_of c_law_same cminus_of : Ct} {tb : List (Str × Ct)} {kt : Nat} (htb : VTab P w G base kt tb) (lt : kt + 2 ≤ k) (b_range : G.mg "range" = none) (g_most_of : G.mg "most_of" = some (.ref (He.ga G.K "most_of"))) (g_least_of : G.mg "least_of" = some (.ref (He.ga G.K "least_of"))) (g_quotient_of : G.mg "quotient_of" = some (.ref (He.ga G.K "quotient_of"))) (g_product_of : G.mg "product_of" = some (.ref (He.ga G.K "product_of"))) (g_difference_of : G.mg "difference_of" = some (.ref (He.ga G.K "difference_of"))) (g_sum_of : G.mg "sum_of" = some (.ref (He.ga G.K "sum_of"))) (T_law_error : Teller G "_law_error" st_law_error w_law_error hs_law_error) (TB : LamX.TabB base G.mg cc PT) (hmT : (PT, ("law" : Str) ++ ".<locals>." ++ "<lambda>") ∈ G.T) (hu : ∀ p ∈ G.T, p.1 = PT → p.2 = ("law" : Str) ++ ".<locals>." ++ "<lambda>") (g_amount_of : G.mg "amount_of" = some (.ref (He.ga G.K "amount_of"))) (g_minus_of : G.mg "minus_of" = some (.ref (He.ga G.K "minus_of"))) (b_len : G.mg "len" = none) (h_law_cup : Has P w G base "_law_cup" P_law_cup k_law_cup c_law_cup) (s_law_cup : Ct.sized c_law_cup P_law_cup.length) (l_law_cup : k_law_cup + 2 ≤ k) (h_law_stretch : Has P w G base "_law_stretch" P_law_stretch k_law_stretch c_law_stretch) (s_law_stretch : Ct.sized c_law_stretch P_law_stretch.length) (l_law_stretch : k_law_stretch + 2 ≤ k) (h_law_two_right : HasG P w G base "_law_two_right" P_law_two_right k_law_two_right c_law_two_right) (s_law_two_right : Ct.sized c_law_two_right P_law_two_right.length) (l_law_two_right : k_law_two_right + 2 ≤ k) (h_law_one_right : HasG P w G base "_law_one_right" P_law_one_right k_law_one_right c_law_one_right) (s_law_one_right : Ct.sized c_law_one_right P_law_one_right.length) (l_law_one_right : k_law_one_right + 2 ≤ k) (h_law_roll : Has P w G base "_law_roll" P_law_roll k_law_roll c_law_roll) (s_law_roll : Ct.sized c_law_roll P_law_roll.length) (l_law_roll : k_law_roll + 2 ≤ k) (hamount_of : Has P w G base "amount_of" Pamount_of kamount_of camount_of) (samount_of : Ct.sized camount_of Pamount_of.length) (lamount_of : kamount_of + 2 ≤ k) (hpower_of : Has P w G base "power_of" Ppower_of kpower_of cpower_of) (spower_of : Ct.sized cpower_of Ppower_of.length) (lpower_of : kpower_of + 2 ≤ k) (hproduct_of : Has P w G base "product_of" Pproduct_of kproduct_of cproduct_of) (sproduct_of : Ct.sized cproduct_of Pproduct_of.length) (lproduct_of : kproduct_of + 2 ≤ k) (hquotient_of : Has P w G base "quotient_of" Pquotient_of kquotient_of cquotient_of) (squotient_of : Ct.sized cquotient_of Pquotient_of.length) (lquotient_of : kquotient_of + 2 ≤ k) (h_law_same : HasG P w G base "_law_same" P_law_same k_law_same c_law_same) (s_law_same : Ct.sized c_law_same P_law_same.length) (l_law_same : k_law_same + 2 ≤ k) (hminus_of : Has P w G base "minus_of" Pminus_of kminus_of cminus_of) (sminus_of : Ct.sized cminus_of Pminus_of.length) (lminus_of : kminus_of + 2 ≤ k) (hk2 : 2 ≤ k) (hgd : A.guards = some []) 
    (hr : Room k (FX P w G base Nlaw "law" stlaw f (.ref cc) A outer s H E).A) : PSs (FX P w G base Nlaw "law" stlaw f (.ref cc) A outer s H E) (defBody stlaw) (tS G (WEx E) (fslaw tb c_law_cup c_law_stretch c_law_two_right c_law_one_right c_law_roll camount_of cpower_of cproduct_of cquotient_of c_law_same cminus_of)) := by
  exact (ss_cons (sset 1 sclaw.nd (xfn h_law_cup s_law_cup hr (by omega) tkF (xcons (xv 0) xnil)))
    (ss_cons (sfor poF (irng1 b_range (xcons xi xnil)) (gname 2 sclaw.nd) (ss_cons (spar 3 4 sclaw.nd (xcons (xfn h_law_stretch s_law_stretch hr (by omega) tkF (xcons (xv 1) xnil)) (xcons (xfn h_law_stretch s_law_stretch hr (by omega) tkF (xcons (xv 1) xnil)) xnil)))
    (ss_one (s_if (PW.pt (wo (tnot (tt (xfnG hgd h_law_two_right s_law_two_right hr (by omega) tkF (xcons (xv 3) (xcons (xv 4) xnil))))) (wo (tnot (tt (xfnG hgd h_law_one_right s_law_one_right hr (by omega) tkF (xcons (xv 3) (xcons (xfn h_law_roll s_law_roll hr (by omega) tkF (xcons (xv 1) (xcons xi xnil))) xnil))))) (wo1 (tnot (tt (xfnG hgd h_law_one_right s_law_one_right hr (by omega) tkF (xcons (xv 4) (xcons xi xnil))))))))) (ss_one (s_ret xb)) ss_nil))))
    (ss_cons (sasg (xtup (xcons (xtup (xcons (xtup (xcons (xneg xi) (xcons xi xnil))) (xcons (xtup (xcons xi (xcons xi xnil))) xnil))) (xcons (xtup (xcons (xtup (xcons xi (xcons xi xnil))) (xcons (xtup (xcons xi (xcons xi xnil))) xnil))) (xcons (xtup (xcons (xtup (xcons xi (xcons xi xnil))) (xcons (xtup (xcons xi (xcons xi xnil))) xnil))) xnil)))) (gtup (gcons (gname 5 sclaw.nd) (gcons (gname 6 sclaw.nd) (gcons (gname 7 sclaw.nd) gs_nil)))))
    (ss_cons (sset 8 sclaw.nd (xlst false (xcons (xfn hpower_of spower_of hr (by omega) tkF (xcons (xv 5) (xcons xi xnil))) (xcons (xfn hpower_of spower_of hr (by omega) tkF (xcons (xv 5) (xcons xi xnil))) (xcons (xfn hpower_of spower_of hr (by omega) tkF (xcons (xv 7) (xcons xi xnil))) (xcons (xfn hamount_of samount_of hr (by omega) tkF (xcons (xv 5) xnil)) xnil))))))
    (ss_cons (sset 8 sclaw.nd (xbin (oadd false) (xv 8) (xlst false (xcons (xfn hquotient_of squotient_of hr (by omega) tkF (xcons (xv 6) (xcons (xv 7) xnil))) (xcons (xfn hquotient_of squotient_of hr (by omega) tkF (xcons (xv 7) (xcons (xv 6) xnil))) (xcons (xfn hproduct_of sproduct_of hr (by omega) tkF (xcons (xv 5) (xcons (xv 5) xnil))) xnil))))))
    (ss_cons (sset 9 sclaw.nd (xlst false (xcons (xtup (xcons (xtup (xcons xi (xcons xi xnil))) (xcons (xtup (xcons xi (xcons xi xnil))) xnil))) (xcons (xtup (xcons (xtup (xcons (xneg xi) (xcons xi xnil))) (xcons (xtup (xcons xi (xcons xi xnil))) xnil))) (xcons (xv 6) (xcons (xtup (xcons (xtup (xcons xi (xcons xi xnil))) (xcons (xtup (xcons xi (xcons xi xnil))) xnil))) (xcons xn (xcons (xv 7) (xcons (xtup (xcons (xtup (xcons (xneg xi) (xcons xi xnil))) (xcons (xtup (xcons xi (xcons xi xnil))) xnil))) xnil)))))))))
    (ss_cons (s_if (PW.pt (wo (tnot (tt (xfnG hgd h_law_same s_law_same hr (by omega) tkF (xcons (xv 8) (xcons (xv 9) xnil))))) (wo1 (tnot (tt (xfnG hgd h_law_same s_law_same hr (by omega) tkF (xcons (xfn hpower_of spower_of hr (by omega) tkF (xcons (xtup (xcons (xtup (xcons (xneg xi) (xcons xi xnil))) (xcons (xtup (xcons xi (xcons xi xnil))) xnil))) (xcons xi xnil))) (xcons (xtup (xcons (xtup (xcons xi (xcons xi xnil))) (xcons (xtup (xcons xi (xcons xi xnil))) xnil))) xnil)))))))) (ss_one (s_ret xb)) ss_nil)
    (ss_cons (sset 10 sclaw.nd (xtup (xcons (xtup (xcons xi (xcons xi xnil))) (xcons (xtup (xcons (xbin opow xi xi) (xcons xi xnil))) xnil))))
    (ss_cons (s_if (tnot (tt (xfnG hgd h_law_same s_law_same hr (by omega) tkF (xcons (xlst false (xcons (xfn hpower_of spower_of hr (by omega) tkF (xcons (xtup (xcons (xtup (xcons xi (xcons xi xnil))) (xcons (xtup (xcons xi (xcons xi xnil))) xnil))) (xcons xi xnil))) (xcons (xfn hminus_of sminus_of hr (by omega) tkF (xcons (xv 10) xnil)) xnil))) (xcons (xlst false (xcons (xtup (xcons (xtup (xcons xi (xcons xi xnil))) (xcons (xtup (xcons xi (xcons xi xnil))) xnil))) (xcons (xtup (xcons (xtup (xcons (xneg (xbin opow xi xi)) (xcons xi xnil))) (xcons (xtup (xcons xi (xcons xi xnil))) xnil))) xnil))) xnil))))) (ss_one (s_ret xb)) ss_nil)
    (ss_cons (s_if (PW.pt (wo (tnot (tt (xfnG hgd h_law_two_right s_law_two_right hr (by omega) tkF (xcons (xv 10) (xcons (xtup (xcons (xtup (xcons xi (xcons (xbin opow xi xi) xnil))) (xcons (xtup (xcons xi (xcons xi xnil))) xnil))) xnil))))) (wo1 (tnot (tt (xfnG hgd h_law_one_right s_law_one_right hr (by omega) tkF (xcons (xv 10) (xcons xi xnil)))))))) (ss_one (s_ret xb)) ss_nil)
    (ss_cons (sset 11 sclaw.nd (xlst false (xcons xn (xcons (xtup xnil) (xcons (xtup (xcons xi (xcons xi xnil))) (xcons (xtup (xcons (xtup (xcons xi (xcons xi xnil))) (xcons (xtup (xcons xi (xcons xi xnil))) xnil))) (xcons (xlst false (xcons (xtup (xcons xi (xcons xi xnil))) (xcons (xtup (xcons xi (xcons xi xnil))) xnil))) (xcons (xtup (xcons (xtup (xcons xi (xcons xi xnil))) (xcons (xtup (xcons xi (xcons xi xnil))) xnil))) (xcons (xtup (xcons (xtup (xcons xi (xcons xi xnil))) (xcons (xtup (xcons xi (xcons xi xnil))) xnil))) (xcons (xtup (xcons (xtup (xcons xb (xcons xi xnil))) (xcons (xtup (xcons xi (xcons xi xnil))) xnil))) (xcons (xtup (xcons (xtup (xcons xi (xcons xi xnil))) xnil)) xnil)))))))))))
    (ss_cons (sset 12 sclaw.nd (xlst false xnil))
    (ss_cons (sfor poF (ival (xtup (xcons (xgl g_sum_of) (xcons (xgl g_difference_of) (xcons (xgl g_product_of) (xcons (xgl g_quotient_of) (xcons (xgl g_least_of) (xcons (xgl g_most_of) xnil)))))))) (gname 13 sclaw.nd) (ss_cons (sset 12 sclaw.nd (xbin (oadd false) (xv 12) (xlc false [("own", 15)] sclaw.nd (ival (xsl false (xv 11) on (os xi))) (gnameF 15 (fun _ => sclaw.nd)) (fun _ => ts_nil) (fun _ => (xlam T_law_error sc_law_error (fun _ => tell_law_error T_law_error.cls) TB hmT hu hr (by omega) (fun _ _ _ _ _ _ _ hrL => (xvcall 13 htb hrL (by omega) tkL (xcons (xv 15) (xcons xn xnil)))))))))
    (ss_one (sset 12 sclaw.nd (xbin (oadd false) (xv 12) (xlc false [("own", 15)] sclaw.nd (ival (xv 11)) (gnameF 15 (fun _ => sclaw.nd)) (fun _ => ts_nil) (fun _ => (xlam T_law_error sc_law_error (fun _ => tell_law_error T_law_error.cls) TB hmT hu hr (by omega) (fun _ _ _ _ _ _ _ hrL => (xvcall 13 htb hrL (by omega) tkL (xcons (xv 6) (xcons (xv 15) xnil))))))))))))
    (ss_cons (sfor poF (ival (xtup (xcons (xgl g_minus_of) (xcons (xgl g_amount_of) xnil)))) (gname 14 sclaw.nd) (ss_one (sset 12 sclaw.nd (xbin (oadd false) (xv 12) (xlc false [("own", 15)] sclaw.nd (ival (xv 11)) (gnameF 15 (fun _ => sclaw.nd)) (fun _ => ts_nil) (fun _ => (xlam T_law_error sc_law_error (fun _ => tell_law_error T_law_error.cls) TB hmT hu hr (by omega) (fun _ _ _ _ _ _ _ hrL => (xvcall 14 htb hrL (by omega) tkL (xcons (xv 15) xnil))))))))))
    (ss_cons (sset 12 sclaw.nd (xbin (oadd false) (xv 12) (xlc false [("own", 15)] sclaw.nd (ival (xsl false (xv 11) on (os xi))) (gnameF 15 (fun _ => sclaw.nd)) (fun _ => ts_nil) (fun _ => (xlam T_law_error sc_law_error (fun _ => tell_law_error T_law_error.cls) TB hmT hu hr (by omega) (fun _ _ _ _ _ _ _ hrL => (xfn hpower_of spower_of hrL (by omega) tkL (xcons (xv 15) (xcons xn xnil)))))))))
    (ss_cons (sset 12 sclaw.nd (xbin (oadd false) (xv 12) (xlc false [("own", 15)] sclaw.nd (ival (xtup (xcons xn (xcons (xneg xi) (xcons xi (xcons xb xnil)))))) (gnameF 15 (fun _ => sclaw.nd)) (fun _ => ts_nil) (fun _ => (xlam T_law_error sc_law_error (fun _ => tell_law_error T_law_error.cls) TB hmT hu hr (by omega) (fun _ _ _ _ _ _ _ hrL => (xfn hpower_of spower_of hrL (by omega) tkL (xcons (xv 6) (xcons (xv 15) xnil)))))))))
    (ss_one (s_ret (xcmp (oeq hr) (xv 12) (xbin (oadd false) (xbin (omul false) (xlst false (xcons xs xnil)) (xbin (oadd false) (xbin (oadd false) xi (xbin (omul false) xi (xcB (bf_len rfl) b_len (xcons (xv 11) xnil)))) xi)) (xbin (omul false) (xlst false (xcons xs xnil)) xi)))))))))))))))))))))
end LawX

set_option Elab.async false
set_option linter.all false
set_option maxRecDepth 100000
set_option maxHeartbeats 0
namespace LawX
open PySem PySem.Spec PyProof.Rows L2 Dx
def fa0 : List He.Fa := [.glo "_law_cup", .glo "is_less", .glo "is_tuple_of", .glo "is_integer", .glo "fits_any", .glo "fits_stretch", .glo "need_stretch", .glo "need_two", .glo "made", .glo "plus", .glo "sum_by", .glo "sum_of", .glo "minus", .glo "less", .glo "difference_by", .glo "difference_of", .glo "least", .glo "most", .glo "hull", .glo "times", .glo "product_by", .glo "product_of", .glo "is_in", .glo "inverse", .glo "quotient_by", .glo "quotient_of", .glo "least_by", .glo "least_of", .glo "most_by", .glo "most_of"]
def fa1 : List He.Fa := [.glo "minus_by", .glo "minus_of", .glo "amount_by", .glo "amount_of", .glo "is_whole", .glo "need_whole", .glo "raised", .glo "power_by", .glo "power_of", .glo "_law_same", .glo "_law_common", .glo "_law_made", .glo "_law_roll", .glo "_law_some", .glo "_law_any", .glo "_law_is_less", .glo "_law_order", .glo "_law_stretch", .glo "_law_in", .glo "_law_minus", .glo "_law_plus", .glo "_law_times", .glo "_law_by", .glo "_law_lesser", .glo "_law_greater", .glo "_law_hull", .glo "_law_pairs", .glo "_law_two_right", .glo "_law_raised", .glo "_law_one_right"]
def fa2 : List He.Fa := [.glo "_law_error", .glo "law", .glo "InvalidStretch", .glo "InvalidNumber", .glo "NearError", .glo "InvalidFraction", .glo "InvalidTree", .glo "NONE", .glo "ONE", .free "list", .free "abs", .free "int", .free "tuple", .free "isinstance", .free "len", .free "bool", .free "repr", .free "range", .int "EXPONENT" 12, .exc "InvalidStretch", .exc "InvalidNumber", .exm "NearError" "InvalidStretch" false, .exm "NearError" "InvalidFraction" false, .exm "NearError" "InvalidNumber" false, .exm "NearError" "InvalidTree" false, .exm "NearError" "NearError" true, .exm "InvalidFraction" "InvalidStretch" false, .exm "InvalidFraction" "InvalidFraction" true, .exm "InvalidTree" "InvalidStretch" false, .exm "InvalidTree" "InvalidFraction" false]
def fa3 : List He.Fa := [.exm "InvalidTree" "InvalidNumber" false, .exm "InvalidTree" "InvalidTree" true, .exm "InvalidStretch" "InvalidStretch" true, .exm "InvalidNumber" "InvalidStretch" false, .exm "InvalidNumber" "InvalidFraction" false, .exm "InvalidNumber" "InvalidNumber" true]
def fa : List He.Fa := fa0 ++ fa1 ++ fa2 ++ fa3
def fnl : List He.DefD := [dd "_law_cup" st_law_cup, dd "is_less" stis_less, dd "is_tuple_of" stis_tuple_of, dd "is_integer" stis_integer, dd "fits_any" stfits_any, dd "fits_stretch" stfits_stretch, dd "need_stretch" stneed_stretch, dd "need_two" stneed_two, dd "made" stmade, dd "plus" stplus, dd "sum_by" stsum_by, dd "sum_of" stsum_of, dd "minus" stminus, dd "less" stless, dd "difference_by" stdifference_by, dd "difference_of" stdifference_of, dd "least" stleast, dd "most" stmost, dd "hull" sthull, dd "times" sttimes, dd "product_by" stproduct_by, dd "product_of" stproduct_of, dd "is_in" stis_in, dd "inverse" stinverse, dd "quotient_by" stquotient_by, dd "quotient_of" stquotient_of, dd "least_by" stleast_by, dd "least_of" stleast_of, dd "most_by" stmost_by, dd "most_of" stmost_of, dd "minus_by" stminus_by, dd "minus_of" stminus_of, dd "amount_by" stamount_by, dd "amount_of" stamount_of, dd "is_whole" stis_whole, dd "need_whole" stneed_whole, dd "raised" straised, dd "power_by" stpower_by, dd "power_of" stpower_of, dd "_law_same" st_law_same, dd "_law_common" st_law_common, dd "_law_made" st_law_made, dd "_law_roll" st_law_roll, dd "_law_some" st_law_some, dd "_law_any" st_law_any, dd "_law_is_less" st_law_is_less, dd "_law_order" st_law_order, dd "_law_stretch" st_law_stretch, dd "_law_in" st_law_in, dd "_law_minus" st_law_minus, dd "_law_plus" st_law_plus, dd "_law_times" st_law_times, dd "_law_by" st_law_by, dd "_law_lesser" st_law_lesser, dd "_law_greater" st_law_greater, dd "_law_hull" st_law_hull, dd "_law_pairs" st_law_pairs, dd "_law_two_right" st_law_two_right, dd "_law_raised" st_law_raised, dd "_law_one_right" st_law_one_right, dd "_law_error" st_law_error, dd "law" stlaw]
def tf : List He.Defn := [("law", none)]
def ex (K : PySem.W.Frag) : Bool := plainL K && (He.eqO (PySem.W.nsIn K mainGlobals "gcd") (some (some (.builtin "math.gcd"))) && (He.tupB K "NONE" [.int 0, .int 1] && (He.tupB K "ONE" [.int 1, .int 1])))
def loose0 : List PySem.Str := ["__name__", "NearError", "InvalidFraction", "InvalidTree", "InvalidStretch", "InvalidNumber", "is_whole", "is_integer", "is_tuple_of", "NONE", "ONE", "made", "fits_any", "plus", "minus", "less", "times", "inverse", "is_less", "least", "most", "fits_stretch", "is_in", "need_stretch", "need_whole"]
def loose1 : List PySem.Str := ["EXPONENT", "hull", "sum_by", "minus_by", "difference_by", "product_by", "quotient_by", "amount_by", "least_by", "most_by", "raised", "power_by", "need_two", "sum_of", "difference_of", "product_of", "quotient_of", "least_of", "most_of", "minus_of", "amount_of", "power_of", "_law_cup", "_law_roll", "_law_some"]
def loose2 : List PySem.Str := ["_law_common", "_law_made", "_law_plus", "_law_minus", "_law_times", "_law_by", "_law_is_less", "_law_error", "_law_same", "_law_any", "_law_order", "_law_stretch", "_law_point", "_law_in", "_law_is_stretch", "_law_hull", "_law_lesser", "_law_greater", "_law_raised", "_law_pairs", "_law_two_right", "_law_one_right"]
abbrev loose : List PySem.Str := loose0 ++ loose1 ++ loose2
abbrev R : PySem.W.OpenRow := PySem.W.OpenLaw.row PySem.Challenge.rw_nearplain_k09_whole_images_of_stretches
abbrev hk : PySem.W.Hook := He.hookX 4 fa fnl [] tf ex
def ob (s : PySem.W.SharedT) : He.AlX := He.obsX 4 fa fnl [] tf ex (HandSHeadRun.getT s)
theorem ob_eq (s : PySem.W.SharedT) : ob s = hk.obs s.abs := He.obsX_eq (HandSHeadRun.getT_eq s)
theorem run (w : World) : HandSHeadRun.RunEqI R (PySem.W.view R.prog [0, 77]) hk ob 6000 loose w := by
  unfold HandSHeadRun.RunEqI
  kernel_rfl
end LawX

set_option Elab.async false
set_option linter.all false
set_option maxRecDepth 100000
set_option maxHeartbeats 0
set_option exponentiation.threshold 5000
namespace LawX
open PySem PySem.Spec PyProof.Rows L2 Dx
/-! ### mirrors -/
def isInt : D → Bool
  | .int _ => true
  | _ => false
def isAny : D → Bool
  | .tup [.int a, .int b] => decide (0 < b) && decide (Nat.gcd a.natAbs b.natAbs = 1)
  | _ => false
def big : Int := 1000000000000
def isFrac : D → Bool
  | .tup [.int a, .int b] => (decide (0 < b) && decide (Nat.gcd a.natAbs b.natAbs = 1)) && (decide (a.natAbs ≤ 1000000000000) && decide (b ≤ 1000000000000))
  | _ => false
def lessB : D → D → Bool
  | .tup [.int a, .int b], .tup [.int c, .int d] => decide (a * d < c * b)
  | _, _ => false
def isStr : D → Bool
  | .tup [x, y] => isAny x && (isAny y && !lessB y x)
  | _ => false
def madeD (a b : Int) : D := .tup [.int (a.fdiv (Nat.gcd a.natAbs b.natAbs : Nat)), .int (b.fdiv (Nat.gcd a.natAbs b.natAbs : Nat))]
/-! ### contracts -/
def cRoll : Ct := fun ds S Q _ => ∃ n many, ds = [.obj n, .int many] ∧ Cup n S ∧ 0 < many ∧ many < 2 ^ 4000 ∧ ∀ k S', 0 ≤ k → k < many → CupR n S S' → Q (.int k) S'
def cSome : Ct := fun ds S Q _ => ∃ n xs, ds = [.obj n, .lst xs] ∧ Cup n S ∧ xs ≠ [] ∧ xs.length ≤ sizeLine ∧ ∀ d S', d ∈ xs → CupR n S S' → Q d S'
def cIsInt : Ct := fun ds S Q _ => ∃ v, ds = [v] ∧ datD v = true ∧ Q (.bl (isInt v)) S
def cIsTup : Ct := fun ds S Q _ => ∃ v a b, ds = [v, .int a, .int b] ∧ datD v = true ∧ Q (.bl (match v with | .tup xs => decide (a ≤ xs.length) && decide (xs.length ≤ b) | _ => false)) S
def cAny : Ct := fun ds S Q _ => ∃ v l, ds = [v] ∧ okD l v = true ∧ Q (.bl (isAny v)) S
def cFrac : Ct := fun ds S Q _ => ∃ v l, ds = [v] ∧ okD l v = true ∧ Q (.bl (isFrac v)) S
def cLess : Ct := fun ds S Q _ => ∃ a b c d, ds = [.tup [.int a, .int b], .tup [.int c, .int d]] ∧ cMul a d = true ∧ cMul c b = true ∧ Q (.bl (decide (a * d < c * b))) S
def cStr : Ct := fun ds S Q _ => ∃ v l, ds = [v] ∧ okD l v = true ∧ Q (.bl (isStr v)) S
def cMade : Ct := fun ds S Q _ => ∃ a b, ds = [.int a, .int b] ∧ 0 < b ∧ b < 2 ^ 4000 ∧ Q (madeD a b) S
def cCommon : Ct := fun ds S Q _ => ∃ a b, ds = [.int a, .int b] ∧ Q (.int (Nat.gcd a.natAbs b.natAbs : Nat)) S
theorem log_lt {b : Int} {n : Nat} (h0 : 0 < b) (h : b < 2 ^ n) : b.natAbs.log2 < n := by
  have : b.natAbs < 2 ^ n := by
    have e : ((2 ^ n : Nat) : Int) = 2 ^ n := by simp
    omega
  exact (Nat.log2_lt (by omega)).mpr this
theorem fmod_bd {a m : Int} (h : 0 < m) : 0 ≤ a.fmod m ∧ a.fmod m < m := ⟨Int.fmod_nonneg_of_pos a h, Int.fmod_lt_of_pos a h⟩
/-! ### the cup -/
theorem roll_ok (ds : List D) (S : Store) (Q : D → Store → Prop) (E : QX) (h : cRoll ds S Q E) : fs_law_roll (bodyEnds Q E) (startE N_law_roll ds) S := by
  obtain ⟨n, many, rfl, ⟨a, b, hc⟩, h0, hm, q⟩ := h
  have hl : n < S.length := (List.getElem?_eq_some_iff.mp hc).1
  have c0 : Cup n S := ⟨a, b, hc⟩
  have hm0 : ¬ many = 0 := by omega
  have hlg : many.natAbs.log2 < 9000 := Nat.lt_trans (log_lt h0 hm) (by decide)
  by_cases ha : 0 < a
  · have := q (a.fmod many) _ (fmod_bd h0).1 (fmod_bd h0).2 (CupR.set (a := a.fdiv many) (b := b) c0)
    simp [fs_law_roll, seqS, setS, retS, retN, exprS, nilS, ifS, parS, asgS, bindT, bindTs, bindF, callC, varF, retF, consF, nilF, iteV, truF, truD, notF, andF, orF, andV, orV, notV, chF, chT, bodyEnds, startE, optF, idxF, slcF, intF, noF, newL, tyD, isiT, isiB, lenB, absB, intB, gcdB, tupB, lstB, ltG, leG, gtG, geG, isG, isnG, o2I, isO, getS, addF, subF, mulF, eqG_ii, neG_ii, neG_bb, fdivG, modG, powG, raiseS, wipeE, N_law_roll, hc, ha, L2.atI, L2.ixN, subS, hm0, cDiv, hlg]
    exact this
  · have := q (((b * 31081 + 8039).fmod 2147483543 * ((b * 31081 + 8039).fmod 2147483543 + 251)).fmod 2147483587 |>.fdiv 839 |>.fmod many) _ (fmod_bd h0).1 (fmod_bd h0).2 (CupR.set (a := a) (b := (b * 31081 + 8039).fmod 2147483543) c0)
    have hb := fmod_bd (a := b * 31081 + 8039) (m := 2147483543) (by decide)
    have hb2 : cMul ((b * 31081 + 8039).fmod 2147483543) ((b * 31081 + 8039).fmod 2147483543 + 251) = true := by
      unfold cMul
      simp only [Bool.or_eq_true, decide_eq_true_eq]
      omega
    have hb3 : cMul b 31081 = true := by
      unfold cMul
      simp only [Bool.or_eq_true, decide_eq_true_eq]
      omega
    have h839 : cDiv ((((b * 31081 + 8039).fmod 2147483543) * ((b * 31081 + 8039).fmod 2147483543 + 251)).fmod 2147483587) 839 = true := by
      unfold cDiv
      decide +revert
    have hset : ∀ v, (S.set n v)[n]? = some v := fun v => List.getElem?_set_self hl
    simp [fs_law_roll, seqS, setS, retS, retN, exprS, nilS, ifS, parS, asgS, bindT, bindTs, bindF, callC, varF, retF, consF, nilF, iteV, truF, truD, notF, andF, orF, andV, orV, notV, chF, chT, bodyEnds, startE, optF, idxF, slcF, intF, noF, newL, tyD, isiT, isiB, lenB, absB, intB, gcdB, tupB, lstB, ltG, leG, gtG, geG, isG, isnG, o2I, isO, getS, addF, subF, mulF, eqG_ii, neG_ii, neG_bb, fdivG, modG, powG, raiseS, wipeE, N_law_roll, hc, ha, L2.atI, L2.ixN, subS, hm0, hlg, hb3, hb2, hset, List.set_set, h839]
    exact this
theorem some_ok (ds : List D) (S : Store) (Q : D → Store → Prop) (E : QX) (h : cSome ds S Q E) : fs_law_some cRoll (bodyEnds Q E) (startE N_law_some ds) S := by
  obtain ⟨n, xs, rfl, hc, hx, hl, q⟩ := h
  have hp : 0 < xs.length := List.length_pos_iff.mpr hx
  have hs := sizeLine_eq
  simp only [fs_law_some, seqS, setS, retS, retN, exprS, nilS, ifS, parS, asgS, bindT, bindTs, bindF, callC, varF, retF, consF, nilF, iteV, truF, truD, notF, andF, orF, andV, orV, notV, chF, chT, bodyEnds, startE, optF, idxF, slcF, intF, noF, newL, tyD, isiT, isiB, lenB, absB, intB, gcdB, tupB, lstB, ltG, leG, gtG, geG, isG, isnG, o2I, isO, getS, addF, subF, mulF, eqG_ii, neG_ii, neG_bb, fdivG, modG, powG, raiseS, wipeE, N_law_some, List.map_cons, List.map_nil, List.length_cons, List.length_nil, List.cons_append, List.getElem?_cons_succ, List.getElem?_cons_zero]
  refine ⟨n, xs.length, rfl, hc, by omega, ?_, fun k S' h0 h1 hr => ?_⟩
  · have : (2 : Int) ^ 4000 > 2 ^ 30 := by decide
    omega
  · obtain ⟨j, hj⟩ : ∃ j : Nat, k = j := ⟨k.toNat, by omega⟩
    subst hj
    have hjl : j < xs.length := by omega
    have e : L2.atI xs (j : Int) = some xs[j] := by
      unfold L2.atI L2.ixN
      rw [if_pos h0, if_pos h1]
      simp [hjl]
    simp only [e]
    exact q _ _ (List.getElem_mem hjl) hr
/-! ### plain tests -/
theorem isInt_ok (ds : List D) (S : Store) (Q : D → Store → Prop) (E : QX) (h : cIsInt ds S Q E) : fsis_integer (bodyEnds Q E) (startE Nis_integer ds) S := by
  obtain ⟨v, rfl, hv, hq⟩ := h
  cases v <;> simp [datD] at hv <;> simp [fsis_integer, seqS, setS, retS, retN, exprS, nilS, ifS, parS, asgS, bindT, bindTs, bindF, callC, varF, retF, consF, nilF, iteV, truF, truD, notF, andF, orF, andV, orV, notV, chF, chT, bodyEnds, startE, optF, idxF, slcF, intF, noF, newL, tyD, isiT, isiB, lenB, absB, intB, gcdB, tupB, lstB, ltG, leG, gtG, geG, isG, isnG, o2I, isO, getS, addF, subF, mulF, eqG_ii, neG_ii, neG_bb, fdivG, modG, powG, raiseS, wipeE, Nis_integer] <;> exact hq
theorem isTup_ok (ds : List D) (S : Store) (Q : D → Store → Prop) (E : QX) (h : cIsTup ds S Q E) : fsis_tuple_of (bodyEnds Q E) (startE Nis_tuple_of ds) S := by
  obtain ⟨v, a, b, rfl, hv, hq⟩ := h
  cases v with
  | tup xs =>
    by_cases h1 : a ≤ xs.length <;> simp [fsis_tuple_of, seqS, setS, retS, retN, exprS, nilS, ifS, parS, asgS, bindT, bindTs, bindF, callC, varF, retF, consF, nilF, iteV, truF, truD, notF, andF, orF, andV, orV, notV, chF, chT, bodyEnds, startE, optF, idxF, slcF, intF, noF, newL, tyD, isiT, isiB, lenB, absB, intB, gcdB, tupB, lstB, ltG, leG, gtG, geG, isG, isnG, o2I, isO, getS, addF, subF, mulF, eqG_ii, neG_ii, neG_bb, fdivG, modG, powG, raiseS, wipeE, Nis_tuple_of, h1] <;> simp [h1] at hq <;> exact hq
  | _ => simp [datD] at hv <;> simp [fsis_tuple_of, seqS, setS, retS, retN, exprS, nilS, ifS, parS, asgS, bindT, bindTs, bindF, callC, varF, retF, consF, nilF, iteV, truF, truD, notF, andF, orF, andV, orV, notV, chF, chT, bodyEnds, startE, optF, idxF, slcF, intF, noF, newL, tyD, isiT, isiB, lenB, absB, intB, gcdB, tupB, lstB, ltG, leG, gtG, geG, isG, isnG, o2I, isO, getS, addF, subF, mulF, eqG_ii, neG_ii, neG_bb, fdivG, modG, powG, raiseS, wipeE, Nis_tuple_of] <;> exact hq
theorem len2 {α : Type} {l : List α} (h : l.length = 2) : ∃ a b, l = [a, b] := by
  match l, h with
  | [a, b], _ => exact ⟨a, b, rfl⟩
theorem any_ok (ds : List D) (S : Store) (Q : D → Store → Prop) (E : QX) (h : cAny ds S Q E) : fsfits_any cIsTup cIsInt (bodyEnds Q E) (startE Nfits_any ds) S := by
  obtain ⟨v, l, rfl, hv, hq⟩ := h
  have hd := okD_dat hv
  simp only [fsfits_any, seqS, setS, retS, retN, exprS, nilS, ifS, parS, asgS, bindT, bindTs, bindF, callC, varF, retF, consF, nilF, iteV, truF, truD, notF, andF, orF, andV, orV, notV, chF, chT, bodyEnds, startE, optF, idxF, slcF, intF, noF, newL, tyD, isiT, isiB, lenB, absB, intB, gcdB, tupB, lstB, ltG, leG, gtG, geG, isG, isnG, o2I, isO, getS, addF, subF, mulF, eqG_ii, neG_ii, neG_bb, fdivG, modG, powG, raiseS, wipeE, Nfits_any, List.map_cons, List.map_nil, List.length_cons, List.length_nil, List.cons_append, List.getElem?_cons_succ, List.getElem?_cons_zero]
  refine ⟨v, 2, 2, rfl, hd, ?_⟩
  cases v with
  | tup xs =>
    by_cases hl : xs.length = 2
    · obtain ⟨x, y, rfl⟩ := len2 hl
      have hxy := okD_tup.mp hv
      have hx := okD_dat (hxy.2 x (by simp))
      have hy := okD_dat (hxy.2 y (by simp))
      simp [seqS, setS, retS, retN, exprS, nilS, ifS, parS, asgS, bindT, bindTs, bindF, callC, varF, retF, consF, nilF, iteV, truF, truD, notF, andF, orF, andV, orV, notV, chF, chT, bodyEnds, startE, optF, idxF, slcF, intF, noF, newL, tyD, isiT, isiB, lenB, absB, intB, gcdB, tupB, lstB, ltG, leG, gtG, geG, isG, isnG, o2I, isO, getS, addF, subF, mulF, eqG_ii, neG_ii, neG_bb, fdivG, modG, powG, raiseS, wipeE, L2.atI, L2.ixN]
      refine ⟨x, rfl, hx, ?_⟩
      cases x with
      | int i =>
        simp [isInt, seqS, setS, retS, retN, exprS, nilS, ifS, parS, asgS, bindT, bindTs, bindF, callC, varF, retF, consF, nilF, iteV, truF, truD, notF, andF, orF, andV, orV, notV, chF, chT, bodyEnds, startE, optF, idxF, slcF, intF, noF, newL, tyD, isiT, isiB, lenB, absB, intB, gcdB, tupB, lstB, ltG, leG, gtG, geG, isG, isnG, o2I, isO, getS, addF, subF, mulF, eqG_ii, neG_ii, neG_bb, fdivG, modG, powG, raiseS, wipeE, L2.atI, L2.ixN]
        refine ⟨y, rfl, hy, ?_⟩
        cases y with
        | int j =>
          simp [isInt, isAny, seqS, setS, retS, retN, exprS, nilS, ifS, parS, asgS, bindT, bindTs, bindF, callC, varF, retF, consF, nilF, iteV, truF, truD, notF, andF, orF, andV, orV, notV, chF, chT, bodyEnds, startE, optF, idxF, slcF, intF, noF, newL, tyD, isiT, isiB, lenB, absB, intB, gcdB, tupB, lstB, ltG, leG, gtG, geG, isG, isnG, o2I, isO, getS, addF, subF, mulF, eqG_ii, neG_ii, neG_bb, fdivG, modG, powG, raiseS, wipeE, L2.atI, L2.ixN] at hq ⊢
          by_cases hb : 0 < j
          · simp [hb, seqS, setS, retS, retN, exprS, nilS, ifS, parS, asgS, bindT, bindTs, bindF, callC, varF, retF, consF, nilF, iteV, truF, truD, notF, andF, orF, andV, orV, notV, chF, chT, bodyEnds, startE, optF, idxF, slcF, intF, noF, newL, tyD, isiT, isiB, lenB, absB, intB, gcdB, tupB, lstB, ltG, leG, gtG, geG, isG, isnG, o2I, isO, getS, addF, subF, mulF, eqG_ii, neG_ii, neG_bb, fdivG, modG, powG, raiseS, wipeE, L2.atI, L2.ixN] at hq ⊢
            have e : decide (((i.natAbs.gcd j.natAbs : Nat) : Int) = 1) = decide (i.natAbs.gcd j.natAbs = 1) := by rw [Bool.eq_iff_iff]; simp only [decide_eq_true_eq]; omega
            first | exact hq | (rw [e]; exact hq)
          · simp [hb, seqS, setS, retS, retN, exprS, nilS, ifS, parS, asgS, bindT, bindTs, bindF, callC, varF, retF, consF, nilF, iteV, truF, truD, notF, andF, orF, andV, orV, notV, chF, chT, bodyEnds, startE, optF, idxF, slcF, intF, noF, newL, tyD, isiT, isiB, lenB, absB, intB, gcdB, tupB, lstB, ltG, leG, gtG, geG, isG, isnG, o2I, isO, getS, addF, subF, mulF, eqG_ii, neG_ii, neG_bb, fdivG, modG, powG, raiseS, wipeE] at hq ⊢
            exact hq
        | _ => simp [isInt, isAny, seqS, setS, retS, retN, exprS, nilS, ifS, parS, asgS, bindT, bindTs, bindF, callC, varF, retF, consF, nilF, iteV, truF, truD, notF, andF, orF, andV, orV, notV, chF, chT, bodyEnds, startE, optF, idxF, slcF, intF, noF, newL, tyD, isiT, isiB, lenB, absB, intB, gcdB, tupB, lstB, ltG, leG, gtG, geG, isG, isnG, o2I, isO, getS, addF, subF, mulF, eqG_ii, neG_ii, neG_bb, fdivG, modG, powG, raiseS, wipeE] at hq ⊢; exact hq
      | _ => simp [isInt, isAny, seqS, setS, retS, retN, exprS, nilS, ifS, parS, asgS, bindT, bindTs, bindF, callC, varF, retF, consF, nilF, iteV, truF, truD, notF, andF, orF, andV, orV, notV, chF, chT, bodyEnds, startE, optF, idxF, slcF, intF, noF, newL, tyD, isiT, isiB, lenB, absB, intB, gcdB, tupB, lstB, ltG, leG, gtG, geG, isG, isnG, o2I, isO, getS, addF, subF, mulF, eqG_ii, neG_ii, neG_bb, fdivG, modG, powG, raiseS, wipeE] at hq ⊢; exact hq
    · have : ¬ (2 ≤ (xs.length : Int) ∧ (xs.length : Int) ≤ 2) := by omega
      have e : (decide (2 ≤ (xs.length : Int)) && decide ((xs.length : Int) ≤ 2)) = false := by simpa using this
      simp [e, seqS, setS, retS, retN, exprS, nilS, ifS, parS, asgS, bindT, bindTs, bindF, callC, varF, retF, consF, nilF, iteV, truF, truD, notF, andF, orF, andV, orV, notV, chF, chT, bodyEnds, startE, optF, idxF, slcF, intF, noF, newL, tyD, isiT, isiB, lenB, absB, intB, gcdB, tupB, lstB, ltG, leG, gtG, geG, isG, isnG, o2I, isO, getS, addF, subF, mulF, eqG_ii, neG_ii, neG_bb, fdivG, modG, powG, raiseS, wipeE]
      have : isAny (.tup xs) = false := by
        unfold isAny
        split
        · rename_i q; cases q; simp at hl
        · rfl
      rw [this] at hq
      exact hq
  | _ => simp [isAny] at hq; simp [seqS, setS, retS, retN, exprS, nilS, ifS, parS, asgS, bindT, bindTs, bindF, callC, varF, retF, consF, nilF, iteV, truF, truD, notF, andF, orF, andV, orV, notV, chF, chT, bodyEnds, startE, optF, idxF, slcF, intF, noF, newL, tyD, isiT, isiB, lenB, absB, intB, gcdB, tupB, lstB, ltG, leG, gtG, geG, isG, isnG, o2I, isO, getS, addF, subF, mulF, eqG_ii, neG_ii, neG_bb, fdivG, modG, powG, raiseS, wipeE]; exact hq

theorem less_ok (ds : List D) (S : Store) (Q : D → Store → Prop) (E : QX) (h : cLess ds S Q E) : fsis_less (bodyEnds Q E) (startE Nis_less ds) S := by
  obtain ⟨a, b, c, d, rfl, h1, h2, hq⟩ := h
  simp [fsis_less, seqS, setS, retS, retN, exprS, nilS, ifS, parS, asgS, bindT, bindTs, bindF, callC, varF, retF, consF, nilF, iteV, truF, truD, notF, andF, orF, andV, orV, notV, chF, chT, bodyEnds, startE, optF, idxF, slcF, intF, noF, newL, tyD, isiT, isiB, lenB, absB, intB, gcdB, tupB, lstB, ltG, leG, gtG, geG, isG, isnG, o2I, isO, getS, addF, subF, mulF, eqG_ii, neG_ii, neG_bb, fdivG, modG, powG, raiseS, wipeE, Nis_less, L2.atI, L2.ixN, h1, h2]
  exact hq
theorem lawless_ok (ds : List D) (S : Store) (Q : D → Store → Prop) (E : QX) (h : cLess ds S Q E) : fs_law_is_less (bodyEnds Q E) (startE N_law_is_less ds) S := by
  obtain ⟨a, b, c, d, rfl, h1, h2, hq⟩ := h
  simp [fs_law_is_less, seqS, setS, retS, retN, exprS, nilS, ifS, parS, asgS, bindT, bindTs, bindF, callC, varF, retF, consF, nilF, iteV, truF, truD, notF, andF, orF, andV, orV, notV, chF, chT, bodyEnds, startE, optF, idxF, slcF, intF, noF, newL, tyD, isiT, isiB, lenB, absB, intB, gcdB, tupB, lstB, ltG, leG, gtG, geG, isG, isnG, o2I, isO, getS, addF, subF, mulF, eqG_ii, neG_ii, neG_bb, fdivG, modG, powG, raiseS, wipeE, N_law_is_less, L2.atI, L2.ixN, h1, h2]
  exact hq
theorem log4000 {i : Int} (h : i.natAbs < 2 ^ 4000) : i.natAbs.log2 ≤ 4000 := by
  by_cases h0 : i.natAbs = 0
  · rw [h0]; decide
  · exact Nat.le_of_lt ((Nat.log2_lt h0).mpr h)
theorem cmul_ok {i j : Int} (h : i.natAbs < 2 ^ 4000) (h' : j.natAbs < 2 ^ 4000) : cMul i j = true := by
  have h1 := log4000 h
  have h2 := log4000 h'
  unfold cMul
  simp only [Bool.or_eq_true, decide_eq_true_eq]
  left; left; omega
theorem any_form {v : D} (h : isAny v = true) : ∃ a b, v = .tup [.int a, .int b] ∧ 0 < b ∧ Nat.gcd a.natAbs b.natAbs = 1 := by
  unfold isAny at h
  split at h
  · rename_i a b
    simp at h
    exact ⟨a, b, rfl, h.1, h.2⟩
  · cases h
theorem str_ok (ds : List D) (S : Store) (Q : D → Store → Prop) (E : QX) (h : cStr ds S Q E) : fsfits_stretch cIsTup cAny cLess (bodyEnds Q E) (startE Nfits_stretch ds) S := by
  obtain ⟨v, l, rfl, hv, hq⟩ := h
  have hd := okD_dat hv
  simp [fsfits_stretch, seqS, setS, retS, retN, exprS, nilS, ifS, parS, asgS, bindT, bindTs, bindF, callC, varF, retF, consF, nilF, iteV, truF, truD, notF, andF, orF, andV, orV, notV, chF, chT, bodyEnds, startE, optF, idxF, slcF, intF, noF, newL, tyD, isiT, isiB, lenB, absB, intB, gcdB, tupB, lstB, ltG, leG, gtG, geG, isG, isnG, o2I, isO, getS, addF, subF, mulF, eqG_ii, neG_ii, neG_bb, fdivG, modG, powG, raiseS, wipeE, Nfits_stretch]
  refine ⟨v, 2, 2, rfl, hd, ?_⟩
  cases v with
  | tup xs =>
    by_cases hl : xs.length = 2
    · obtain ⟨x, y, rfl⟩ := len2 hl
      have hxy := okD_tup.mp hv
      have hx := hxy.2 x (by simp)
      have hy := hxy.2 y (by simp)
      simp [seqS, setS, retS, retN, exprS, nilS, ifS, parS, asgS, bindT, bindTs, bindF, callC, varF, retF, consF, nilF, iteV, truF, truD, notF, andF, orF, andV, orV, notV, chF, chT, bodyEnds, startE, optF, idxF, slcF, intF, noF, newL, tyD, isiT, isiB, lenB, absB, intB, gcdB, tupB, lstB, ltG, leG, gtG, geG, isG, isnG, o2I, isO, getS, addF, subF, mulF, eqG_ii, neG_ii, neG_bb, fdivG, modG, powG, raiseS, wipeE, L2.atI, L2.ixN]
      refine ⟨x, l, rfl, hx, ?_⟩
      by_cases ax : isAny x = true
      · simp [ax, seqS, setS, retS, retN, exprS, nilS, ifS, parS, asgS, bindT, bindTs, bindF, callC, varF, retF, consF, nilF, iteV, truF, truD, notF, andF, orF, andV, orV, notV, chF, chT, bodyEnds, startE, optF, idxF, slcF, intF, noF, newL, tyD, isiT, isiB, lenB, absB, intB, gcdB, tupB, lstB, ltG, leG, gtG, geG, isG, isnG, o2I, isO, getS, addF, subF, mulF, eqG_ii, neG_ii, neG_bb, fdivG, modG, powG, raiseS, wipeE, L2.atI, L2.ixN]
        refine ⟨y, l, rfl, hy, ?_⟩
        by_cases ay : isAny y = true
        · simp [ay, seqS, setS, retS, retN, exprS, nilS, ifS, parS, asgS, bindT, bindTs, bindF, callC, varF, retF, consF, nilF, iteV, truF, truD, notF, andF, orF, andV, orV, notV, chF, chT, bodyEnds, startE, optF, idxF, slcF, intF, noF, newL, tyD, isiT, isiB, lenB, absB, intB, gcdB, tupB, lstB, ltG, leG, gtG, geG, isG, isnG, o2I, isO, getS, addF, subF, mulF, eqG_ii, neG_ii, neG_bb, fdivG, modG, powG, raiseS, wipeE, L2.atI, L2.ixN]
          obtain ⟨a, b, rfl, _⟩ := any_form ax
          obtain ⟨c, d, rfl, _⟩ := any_form ay
          have i1 := okD_tup.mp hx
          have i2 := okD_tup.mp hy
          have ka := okD_int.mp (i1.2 (.int a) (by simp))
          have kb := okD_int.mp (i1.2 (.int b) (by simp))
          have kc := okD_int.mp (i2.2 (.int c) (by simp))
          have kd := okD_int.mp (i2.2 (.int d) (by simp))
          refine ⟨c, d, a, b, rfl, cmul_ok kc kb, cmul_ok ka kd, ?_⟩
          simp [isStr, ax, ay, lessB] at hq
          simp [seqS, setS, retS, retN, exprS, nilS, ifS, parS, asgS, bindT, bindTs, bindF, callC, varF, retF, consF, nilF, iteV, truF, truD, notF, andF, orF, andV, orV, notV, chF, chT, bodyEnds, startE, optF, idxF, slcF, intF, noF, newL, tyD, isiT, isiB, lenB, absB, intB, gcdB, tupB, lstB, ltG, leG, gtG, geG, isG, isnG, o2I, isO, getS, addF, subF, mulF, eqG_ii, neG_ii, neG_bb, fdivG, modG, powG, raiseS, wipeE]
          exact hq
        · simp [isStr, ax, ay] at hq
          simp [ay, seqS, setS, retS, retN, exprS, nilS, ifS, parS, asgS, bindT, bindTs, bindF, callC, varF, retF, consF, nilF, iteV, truF, truD, notF, andF, orF, andV, orV, notV, chF, chT, bodyEnds, startE, optF, idxF, slcF, intF, noF, newL, tyD, isiT, isiB, lenB, absB, intB, gcdB, tupB, lstB, ltG, leG, gtG, geG, isG, isnG, o2I, isO, getS, addF, subF, mulF, eqG_ii, neG_ii, neG_bb, fdivG, modG, powG, raiseS, wipeE]
          exact hq
      · simp [isStr, ax] at hq
        simp [ax, seqS, setS, retS, retN, exprS, nilS, ifS, parS, asgS, bindT, bindTs, bindF, callC, varF, retF, consF, nilF, iteV, truF, truD, notF, andF, orF, andV, orV, notV, chF, chT, bodyEnds, startE, optF, idxF, slcF, intF, noF, newL, tyD, isiT, isiB, lenB, absB, intB, gcdB, tupB, lstB, ltG, leG, gtG, geG, isG, isnG, o2I, isO, getS, addF, subF, mulF, eqG_ii, neG_ii, neG_bb, fdivG, modG, powG, raiseS, wipeE]
        exact hq
    · have : ¬ (2 ≤ (xs.length : Int) ∧ (xs.length : Int) ≤ 2) := by omega
      have e : (decide (2 ≤ (xs.length : Int)) && decide ((xs.length : Int) ≤ 2)) = false := by simpa using this
      simp [e, seqS, setS, retS, retN, exprS, nilS, ifS, parS, asgS, bindT, bindTs, bindF, callC, varF, retF, consF, nilF, iteV, truF, truD, notF, andF, orF, andV, orV, notV, chF, chT, bodyEnds, startE, optF, idxF, slcF, intF, noF, newL, tyD, isiT, isiB, lenB, absB, intB, gcdB, tupB, lstB, ltG, leG, gtG, geG, isG, isnG, o2I, isO, getS, addF, subF, mulF, eqG_ii, neG_ii, neG_bb, fdivG, modG, powG, raiseS, wipeE]
      have : isStr (.tup xs) = false := by
        unfold isStr
        split
        · rename_i q; cases q; simp at hl
        · rfl
      rw [this] at hq
      exact hq
  | _ => simp [isStr] at hq; simp [seqS, setS, retS, retN, exprS, nilS, ifS, parS, asgS, bindT, bindTs, bindF, callC, varF, retF, consF, nilF, iteV, truF, truD, notF, andF, orF, andV, orV, notV, chF, chT, bodyEnds, startE, optF, idxF, slcF, intF, noF, newL, tyD, isiT, isiB, lenB, absB, intB, gcdB, tupB, lstB, ltG, leG, gtG, geG, isG, isnG, o2I, isO, getS, addF, subF, mulF, eqG_ii, neG_ii, neG_bb, fdivG, modG, powG, raiseS, wipeE]; exact hq
/-! ### need_whole, made, fraction_of -/
def wholeB (v : D) (a b : Int) : Bool := match v with
  | .int i => decide (a ≤ i) && decide (i ≤ b)
  | _ => false
def cWhole : Ct := fun ds S Q _ => ∃ v a b, ds = [v, .int a, .int b] ∧ datD v = true ∧ Q (.bl (wholeB v a b)) S
def cNeed : Ct := fun ds S Q E => ∃ v a b, ds = [v, .int a, .int b] ∧ datD v = true ∧ if wholeB v a b = true then Q .non S else E ⟨"InvalidNumber", []⟩ S
def cFracOf : Ct := fun ds S Q E => ∃ v u, ds = [v, u] ∧ datD v = true ∧ datD u = true ∧ ((wholeB v (-1000000000000) 1000000000000 && wholeB u 1 1000000000000) = false → E ⟨"InvalidNumber", []⟩ S) ∧
  ∀ a b, v = .int a → u = .int b → -1000000000000 ≤ a → a ≤ 1000000000000 → 1 ≤ b → b ≤ 1000000000000 → Q (madeD a b) S
theorem whole_ok (ds : List D) (S : Store) (Q : D → Store → Prop) (E : QX) (h : cWhole ds S Q E) : fsis_whole (bodyEnds Q E) (startE Nis_whole ds) S := by
  obtain ⟨v, a, b, rfl, hv, hq⟩ := h
  cases v with
  | int i =>
    simp [wholeB] at hq
    by_cases h1 : a ≤ i
    · simp [h1] at hq
      simp [fsis_whole, seqS, setS, retS, retN, exprS, nilS, ifS, parS, asgS, bindT, bindTs, bindF, callC, varF, retF, consF, nilF, iteV, truF, truD, notF, andF, orF, andV, orV, notV, chF, chT, bodyEnds, startE, optF, idxF, slcF, intF, noF, newL, tyD, isiT, isiB, lenB, absB, intB, gcdB, tupB, lstB, ltG, leG, gtG, geG, isG, isnG, o2I, isO, getS, addF, subF, mulF, eqG_ii, neG_ii, neG_bb, fdivG, modG, powG, raiseS, wipeE, Nis_whole, h1]
      exact hq
    · simp [h1] at hq
      simp [fsis_whole, seqS, setS, retS, retN, exprS, nilS, ifS, parS, asgS, bindT, bindTs, bindF, callC, varF, retF, consF, nilF, iteV, truF, truD, notF, andF, orF, andV, orV, notV, chF, chT, bodyEnds, startE, optF, idxF, slcF, intF, noF, newL, tyD, isiT, isiB, lenB, absB, intB, gcdB, tupB, lstB, ltG, leG, gtG, geG, isG, isnG, o2I, isO, getS, addF, subF, mulF, eqG_ii, neG_ii, neG_bb, fdivG, modG, powG, raiseS, wipeE, Nis_whole, h1]
      exact hq
  | _ => simp [datD] at hv <;> simp [wholeB] at hq <;> simp [fsis_whole, seqS, setS, retS, retN, exprS, nilS, ifS, parS, asgS, bindT, bindTs, bindF, callC, varF, retF, consF, nilF, iteV, truF, truD, notF, andF, orF, andV, orV, notV, chF, chT, bodyEnds, startE, optF, idxF, slcF, intF, noF, newL, tyD, isiT, isiB, lenB, absB, intB, gcdB, tupB, lstB, ltG, leG, gtG, geG, isG, isnG, o2I, isO, getS, addF, subF, mulF, eqG_ii, neG_ii, neG_bb, fdivG, modG, powG, raiseS, wipeE, Nis_whole] <;> exact hq
theorem need_ok (ds : List D) (S : Store) (Q : D → Store → Prop) (E : QX) (h : cNeed ds S Q E) : fsneed_whole cWhole (bodyEnds Q E) (startE Nneed_whole ds) S := by
  obtain ⟨v, a, b, rfl, hv, hq⟩ := h
  simp [fsneed_whole, seqS, setS, retS, retN, exprS, nilS, ifS, parS, asgS, bindT, bindTs, bindF, callC, varF, retF, consF, nilF, iteV, truF, truD, notF, andF, orF, andV, orV, notV, chF, chT, bodyEnds, startE, optF, idxF, slcF, intF, noF, newL, tyD, isiT, isiB, lenB, absB, intB, gcdB, tupB, lstB, ltG, leG, gtG, geG, isG, isnG, o2I, isO, getS, addF, subF, mulF, eqG_ii, neG_ii, neG_bb, fdivG, modG, powG, raiseS, wipeE, Nneed_whole]
  refine ⟨v, a, b, rfl, hv, ?_⟩
  by_cases hw : wholeB v a b = true
  · simp [hw] at hq
    simp [hw, seqS, setS, retS, retN, exprS, nilS, ifS, parS, asgS, bindT, bindTs, bindF, callC, varF, retF, consF, nilF, iteV, truF, truD, notF, andF, orF, andV, orV, notV, chF, chT, bodyEnds, startE, optF, idxF, slcF, intF, noF, newL, tyD, isiT, isiB, lenB, absB, intB, gcdB, tupB, lstB, ltG, leG, gtG, geG, isG, isnG, o2I, isO, getS, addF, subF, mulF, eqG_ii, neG_ii, neG_bb, fdivG, modG, powG, raiseS, wipeE]
    exact hq
  · simp [hw] at hq
    simp [hw, seqS, setS, retS, retN, exprS, nilS, ifS, parS, asgS, bindT, bindTs, bindF, callC, varF, retF, consF, nilF, iteV, truF, truD, notF, andF, orF, andV, orV, notV, chF, chT, bodyEnds, startE, optF, idxF, slcF, intF, noF, newL, tyD, isiT, isiB, lenB, absB, intB, gcdB, tupB, lstB, ltG, leG, gtG, geG, isG, isnG, o2I, isO, getS, addF, subF, mulF, eqG_ii, neG_ii, neG_bb, fdivG, modG, powG, raiseS, wipeE]
    exact hq
theorem gcd_pos {a b : Int} (h : 0 < b) : 0 < Nat.gcd a.natAbs b.natAbs := Nat.gcd_pos_of_pos_right _ (by omega)
theorem gcd_le {a b : Int} (h : 0 < b) : Nat.gcd a.natAbs b.natAbs ≤ b.natAbs := Nat.le_of_dvd (by omega) (Nat.gcd_dvd_right _ _)
theorem cdiv_ok {a b : Int} (c : Int) (h : 0 < b) (hb : b < 2 ^ 4000) : cDiv c (Nat.gcd a.natAbs b.natAbs : Nat) = true := by
  have h1 := gcd_pos (a := a) h
  have h2 := gcd_le (a := a) h
  have h3 : Nat.gcd a.natAbs b.natAbs < 2 ^ 4000 := by
    have e : ((2 ^ 4000 : Nat) : Int) = 2 ^ 4000 := by simp
    omega
  unfold cDiv
  simp only [Bool.and_eq_true, Bool.not_eq_true', decide_eq_true_eq, decide_eq_false_iff_not, Int.natAbs_natCast]
  exact ⟨by omega, Nat.lt_trans ((Nat.log2_lt (by omega)).mpr h3) (by decide)⟩
theorem made_ok (ds : List D) (S : Store) (Q : D → Store → Prop) (E : QX) (h : cMade ds S Q E) : fsmade (bodyEnds Q E) (startE Nmade ds) S := by
  obtain ⟨a, b, rfl, h0, hb, hq⟩ := h
  have hs := sizeLine_eq
  simp [fsmade, seqS, setS, retS, retN, exprS, nilS, ifS, parS, asgS, bindT, bindTs, bindF, callC, varF, retF, consF, nilF, iteV, truF, truD, notF, andF, orF, andV, orV, notV, chF, chT, bodyEnds, startE, optF, idxF, slcF, intF, noF, newL, tyD, isiT, isiB, lenB, absB, intB, gcdB, tupB, lstB, ltG, leG, gtG, geG, isG, isnG, o2I, isO, getS, addF, subF, mulF, eqG_ii, neG_ii, neG_bb, fdivG, modG, powG, raiseS, wipeE, Nmade, h0, cdiv_ok _ h0 hb]
  exact ⟨by rw [hs]; decide, hq⟩
/-! ### the law's own -/
theorem gcd_step {a b : Int} (hb : b ≠ 0) : Nat.gcd b.natAbs (a.fmod b).natAbs = Nat.gcd a.natAbs b.natAbs := by
  have h1 : Int.gcd b (a.fmod b) = Int.gcd a b := by
    have e : a = b * a.fdiv b + a.fmod b := (Int.mul_fdiv_add_fmod a b).symm
    conv => rhs; rw [e]
    rw [Int.gcd_comm (b * a.fdiv b + a.fmod b) b]
    simp
  exact h1
theorem fmod_small {a b : Int} (hb : b ≠ 0) : (a.fmod b).natAbs < b.natAbs := by
  rcases Int.lt_or_gt_of_ne hb with h | h
  · have e : a.fmod b = a % b + if 0 ≤ b ∨ b ∣ a then 0 else b := Int.fmod_eq_emod
    have h1 := Int.emod_nonneg a hb
    have h2 : a % b < -b := by
      have := Int.emod_lt_of_pos a (b := -b) (by omega)
      rwa [Int.emod_neg] at this
    by_cases hd : b ∣ a
    · have h4 := Int.emod_eq_zero_of_dvd hd
      simp [hd] at e
      omega
    · have h4 : a % b ≠ 0 := fun z => hd (Int.dvd_of_emod_eq_zero z)
      have h5 : ¬ (0 ≤ b ∨ b ∣ a) := by
        rintro (z | z)
        · omega
        · exact hd z
      rw [if_neg h5] at e
      omega
  · have := fmod_bd (a := a) h
    omega
theorem common_ok (ds : List D) (S : Store) (Q : D → Store → Prop) (E : QX) (h : cCommon ds S Q E) : fs_law_common (bodyEnds Q E) (startE N_law_common ds) S := by
  obtain ⟨a, b, rfl, hq⟩ := h
  have e0 : startE N_law_common [D.int a, D.int b] = [some (.int a), some (.int b)] := rfl
  rw [e0]
  show whileS _ _ _ _ S
  refine ⟨fun n τ S' => S' = S ∧ ∃ x y : Int, n = y.natAbs ∧ τ = [some (.int x), some (.int y)] ∧ Nat.gcd x.natAbs y.natAbs = Nat.gcd a.natAbs b.natAbs, ⟨b.natAbs, rfl, a, b, rfl, rfl, rfl⟩, ?_⟩
  rintro n τ S' ⟨rfl, x, y, rfl, rfl, hg⟩
  by_cases hy : y = 0
  · subst hy
    simp [seqS, setS, retS, retN, exprS, nilS, ifS, parS, asgS, bindT, bindTs, bindF, callC, varF, retF, consF, nilF, iteV, truF, truD, notF, andF, orF, andV, orV, notV, chF, chT, bodyEnds, startE, optF, idxF, slcF, intF, noF, newL, tyD, isiT, isiB, lenB, absB, intB, gcdB, tupB, lstB, ltG, leG, gtG, geG, isG, isnG, o2I, isO, getS, addF, subF, mulF, eqG_ii, neG_ii, neG_bb, fdivG, modG, powG, raiseS, wipeE]
    have hx : Nat.gcd a.natAbs b.natAbs = x.natAbs := by rw [← hg]; simp
    by_cases h0 : 0 < x
    · have e : ((Nat.gcd a.natAbs b.natAbs : Nat) : Int) = x := by rw [hx]; omega
      rw [e] at hq
      simp [h0]
      exact hq
    · have e : ((Nat.gcd a.natAbs b.natAbs : Nat) : Int) = -x := by rw [hx]; omega
      rw [e] at hq
      simp [h0]
      exact hq
  · have h1 := fmod_small (a := x) hy
    have h2 := gcd_step (a := x) hy
    simp [seqS, setS, retS, retN, exprS, nilS, ifS, parS, asgS, bindT, bindTs, bindF, callC, varF, retF, consF, nilF, iteV, truF, truD, notF, andF, orF, andV, orV, notV, chF, chT, bodyEnds, startE, optF, idxF, slcF, intF, noF, newL, tyD, isiT, isiB, lenB, absB, intB, gcdB, tupB, lstB, ltG, leG, gtG, geG, isG, isnG, o2I, isO, getS, addF, subF, mulF, eqG_ii, neG_ii, neG_bb, fdivG, modG, powG, raiseS, wipeE, hy]
    exact ⟨_, h1, _, _, rfl, ⟨rfl, rfl⟩, by rw [h2, hg]⟩
theorem lawmade_ok (ds : List D) (S : Store) (Q : D → Store → Prop) (E : QX) (h : cMade ds S Q E) : fs_law_made cCommon (bodyEnds Q E) (startE N_law_made ds) S := by
  obtain ⟨a, b, rfl, h0, hb, hq⟩ := h
  have hs := sizeLine_eq
  simp [fs_law_made, seqS, setS, retS, retN, exprS, nilS, ifS, parS, asgS, bindT, bindTs, bindF, callC, varF, retF, consF, nilF, iteV, truF, truD, notF, andF, orF, andV, orV, notV, chF, chT, bodyEnds, startE, optF, idxF, slcF, intF, noF, newL, tyD, isiT, isiB, lenB, absB, intB, gcdB, tupB, lstB, ltG, leG, gtG, geG, isG, isnG, o2I, isO, getS, addF, subF, mulF, eqG_ii, neG_ii, neG_bb, fdivG, modG, powG, raiseS, wipeE, N_law_made]
  refine ⟨a, b, rfl, ?_⟩
  simp [seqS, setS, retS, retN, exprS, nilS, ifS, parS, asgS, bindT, bindTs, bindF, callC, varF, retF, consF, nilF, iteV, truF, truD, notF, andF, orF, andV, orV, notV, chF, chT, bodyEnds, startE, optF, idxF, slcF, intF, noF, newL, tyD, isiT, isiB, lenB, absB, intB, gcdB, tupB, lstB, ltG, leG, gtG, geG, isG, isnG, o2I, isO, getS, addF, subF, mulF, eqG_ii, neG_ii, neG_bb, fdivG, modG, powG, raiseS, wipeE, h0, cdiv_ok _ h0 hb]
  exact ⟨by rw [hs]; decide, hq⟩
theorem eq_made {a b : Int} (h : 0 < b) : eqD (madeD a b) (.tup [.int a, .int b]) = decide (Nat.gcd a.natAbs b.natAbs = 1) := by
  have hp := gcd_pos (a := a) h
  rw [Bool.eq_iff_iff]
  simp only [madeD, eqD, eqDs, Bool.and_true, Bool.and_eq_true, beq_iff_eq, decide_eq_true_eq]
  constructor
  · rintro ⟨_, h2⟩
    have hd : ((Nat.gcd a.natAbs b.natAbs : Nat) : Int) ∣ b := Int.gcd_dvd_right ..
    rw [Int.fdiv_eq_ediv_of_nonneg _ (by omega)] at h2
    have h3 := Int.mul_ediv_cancel' hd
    rw [h2] at h3
    have h4 : (((Nat.gcd a.natAbs b.natAbs : Nat) : Int) - 1) * b = 0 := by rw [Int.sub_mul]; omega
    rcases Int.mul_eq_zero.mp h4 with h5 | h5 <;> omega
  · intro h1
    rw [h1]
    simp
def cLawAny : Ct := fun ds S Q _ => ∃ v l, ds = [v] ∧ okD l v = true ∧ l ≤ sizeLine ∧ depD v ≤ 63 ∧ Q (.bl (isAny v)) S
def cLawFrac : Ct := fun ds S Q _ => ∃ v l, ds = [v] ∧ okD l v = true ∧ l ≤ sizeLine ∧ depD v ≤ 63 ∧ Q (.bl (isFrac v)) S
def cLawStr : Ct := fun ds S Q _ => ∃ v l, ds = [v] ∧ okD l v = true ∧ l ≤ sizeLine ∧ depD v ≤ 63 ∧ Q (.bl (isStr v)) S
theorem p7 : cPow 10 7 = true := by decide
theorem p11 : cPow 10 11 = true := by decide
theorem p12 : cPow 10 12 = true := by decide
theorem p18 : cPow 10 18 = true := by decide
theorem p50 : cPow 10 50 = true := by decide
def cLFrac : Ct := fun ds S Q _ => ∃ n, ds = [.obj n] ∧ Cup n S ∧ ∀ a b S', -9 ≤ a → a ≤ 9 → 1 ≤ b → b ≤ 5 → CupR n S S' → Q (madeD a b) S'
def cLCup : Ct := fun ds S Q _ => ∃ ns, ds = [.lst (scr ns)] ∧ ns.length ≤ 63 ∧ S = [] ∧ ∀ a b : Int, Q (.obj 0) [.lst [.int a, .int b]]
theorem cup_ok (ds : List D) (S : Store) (Q : D → Store → Prop) (E : QX) (h : cLCup ds S Q E) : fs_law_cup (bodyEnds Q E) (startE N_law_cup ds) S := by
  obtain ⟨ns, rfl, hl, rfl, hq⟩ := h
  have hs := sizeLine_eq
  have h1 : (scr ns).length + 1 ≤ sizeLine := by rw [hs]; simp [scr]; omega
  obtain ⟨z, t, hz⟩ : ∃ (z : Int) (t : List D), scr ns ++ [D.int 0] = .int z :: t := by
    cases ns with
    | nil => exact ⟨0, [], rfl⟩
    | cons a r => exact ⟨a, r.map .int ++ [.int 0], rfl⟩
  have hp : (0 : Int) < (t.length : Int) + 1 := by omega
  have m307 : ∀ z : Int, cMul z 307 = true := fun z => by unfold cMul; simp
  have d83 : ∀ z : Int, cDiv z 83 = true := fun z => by unfold cDiv; decide
  have hz2 : (2 : Nat) ≤ sizeLine := by rw [hs]; decide
  have hz1 : (1 : Nat) ≤ sizeLine := by rw [hs]; decide
  by_cases hc : 1000000000000000000 ≤ (if z < 0 then -z else z)
  · simp [fs_law_cup, seqS, setS, retS, retN, exprS, nilS, ifS, parS, asgS, bindT, bindTs, bindF, callC, varF, retF, consF, nilF, iteV, truF, truD, notF, andF, orF, andV, orV, notV, chF, chT, bodyEnds, startE, optF, idxF, slcF, intF, noF, newL, tyD, isiT, isiB, lenB, absB, intB, gcdB, tupB, lstB, ltG, leG, gtG, geG, isG, isnG, o2I, isO, getS, addF, subF, mulF, eqG_ii, neG_ii, neG_bb, fdivG, modG, powG, raiseS, wipeE, N_law_cup, h1, L2.atI, L2.ixN, hz, hp, m307, p18, hc, d83, hz2, hz1]
    exact hq _ _
  · simp [fs_law_cup, seqS, setS, retS, retN, exprS, nilS, ifS, parS, asgS, bindT, bindTs, bindF, callC, varF, retF, consF, nilF, iteV, truF, truD, notF, andF, orF, andV, orV, notV, chF, chT, bodyEnds, startE, optF, idxF, slcF, intF, noF, newL, tyD, isiT, isiB, lenB, absB, intB, gcdB, tupB, lstB, ltG, leG, gtG, geG, isG, isnG, o2I, isO, getS, addF, subF, mulF, eqG_ii, neG_ii, neG_bb, fdivG, modG, powG, raiseS, wipeE, N_law_cup, h1, L2.atI, L2.ixN, hz, hp, m307, p18, hc, d83, hz2, hz1]
    exact hq _ _

def menuL : List D := [.non, .tup [], .int 0, .int 1, .int (-1), .int 7, .int 13, .int 10000000, .bl true, .str "", .str "pi", .str "sqrt", .str "number", .tup [.int 0, .int 1], .tup [.int 2, .int 4], .tup [.int 1, .int 0],
  .tup [.str "pi"], .tup [.str "unknown"], .lst [.str "pi"], .tup [.str "number", .tup [.int 1, .int 2]], .tup [.int 1, .int 2, .int 0], .tup [.int 0, .int 0, .int 1]]
theorem menu_ok : ∀ d ∈ menuL, okD 3 d = true ∧ depD d ≤ 2 := by decide +kernel
def cSpoilt (dm : Nat) : Ct := fun ds S Q _ => ∃ n v l, ds = [.obj n, v] ∧ Cup n S ∧ okD l v = true ∧ depD v ≤ dm ∧ dm ≤ 50 ∧ 3 ≤ l ∧ l + dm ≤ 1000 ∧ ∀ r S', okD (l + dm + 1) r = true → depD r ≤ dm + 2 → CupR n S S' → Q r S'
theorem cut_to {xs : List D} {k : Int} (h : 0 ≤ k) : Dx.cutD xs none (some k) = xs.take k.toNat := by
  unfold Dx.cutD HT.sIx
  simp only [List.drop_zero, Nat.sub_zero]
  split
  · omega
  · rcases Nat.le_total k.toNat xs.length with h1 | h1
    · simp [Nat.min_eq_left h1]
    · simp [Nat.min_eq_right h1, List.take_of_length_le h1]
theorem cut_from {xs : List D} {k : Int} (h : 0 ≤ k) : Dx.cutD xs (some k) none = xs.drop k.toNat := by
  unfold Dx.cutD HT.sIx
  simp
  split
  · omega
  · rcases Nat.le_total k.toNat xs.length with h1 | h1
    · simp [Nat.min_eq_left h1]
      rw [List.take_of_length_le (by simp)]
    · simp [Nat.min_eq_right h1, List.drop_of_length_le h1]
theorem cut_sub {xs : List D} {lo hi : Option Int} : ∀ d ∈ Dx.cutD xs lo hi, d ∈ xs := fun d h => by
  unfold Dx.cutD at h
  exact List.mem_of_mem_drop (List.mem_of_mem_take h)
theorem cut_len {xs : List D} {lo hi : Option Int} : (Dx.cutD xs lo hi).length ≤ xs.length := by
  unfold Dx.cutD
  simp
  omega
theorem cut_one {xs : List D} {k : Int} (h : 0 ≤ k) : (Dx.cutD xs (some k) (some (k + 1))).length ≤ 1 := by
  unfold Dx.cutD HT.sIx
  simp
  split <;> split <;> omega
theorem fdiv_abs {a : Int} {g : Nat} (hg : 0 < g) (hd : g ∣ a.natAbs) : (a.fdiv (g : Int)).natAbs = a.natAbs / g := by
  obtain ⟨c, hc⟩ := Int.ofNat_dvd_left.mpr hd
  rw [hc, Int.mul_fdiv_cancel_left _ (by omega)]
  rw [Int.natAbs_mul, Int.natAbs_natCast, Nat.mul_div_cancel_left _ hg]
theorem made_form {a b : Int} (h : 0 < b) : ∃ x y : Int, madeD a b = .tup [.int x, .int y] ∧ 0 < y ∧ y ≤ b ∧ x.natAbs ≤ a.natAbs ∧ Nat.gcd x.natAbs y.natAbs = 1 := by
  have hg := gcd_pos (a := a) h
  have h1 := fdiv_abs (a := a) hg (Nat.gcd_dvd_left _ _)
  have h2 := fdiv_abs (a := b) hg (Nat.gcd_dvd_right _ _)
  refine ⟨_, _, rfl, ?_, ?_, ?_, ?_⟩
  · rw [Int.fdiv_eq_ediv_of_nonneg _ (by omega)]
    have hd : ((Nat.gcd a.natAbs b.natAbs : Nat) : Int) ∣ b := Int.gcd_dvd_right ..
    exact Int.ediv_pos_of_pos_of_dvd h (by omega) hd
  · rw [Int.fdiv_eq_ediv_of_nonneg _ (by omega)]
    exact Int.ediv_le_self _ (by omega)
  · rw [h1]
    exact Nat.div_le_self _ _
  · rw [h1, h2]
    exact Nat.gcd_div_gcd_div_gcd_of_pos_right (by omega)
theorem made_ok2 {a b : Int} (h : 0 < b) (ha : a.natAbs ≤ 1000000000000) (hb : b ≤ 1000000000000) (l : Nat) (hl : 2 ≤ l) : okD l (madeD a b) = true ∧ depD (madeD a b) ≤ 1 ∧ isFrac (madeD a b) = true ∧ isAny (madeD a b) = true := by
  obtain ⟨x, y, e, h1, h2, h3, h4⟩ := made_form (a := a) h
  rw [e]
  have hp : 1000000000000 < 2 ^ 4000 := by decide
  refine ⟨okD_tup.mpr ⟨by simpa using hl, fun d hd => ?_⟩, by simp [depD, depDs], ?_, ?_⟩
  · simp at hd
    rcases hd with rfl | rfl
    · exact okD_int.mpr (by omega)
    · exact okD_int.mpr (by omega)
  · simp [isFrac, h1, h4]; omega
  · simp [isAny, h1, h4]
abbrev cupT (s t o u w d x y : Option D) : Dx.Env := [s, some (.obj 0), t, o, u, w, d, x, y]
/-! ### fractions as rationals -/
def fr (a b : Int) : D := .tup [.int a, .int b]
def qf (a b : Int) : Rat := mkRat a b.toNat
def ratD (q : Rat) : D := fr q.num q.den
theorem qf_rat (q : Rat) : qf q.num q.den = q := by
  unfold qf
  rw [Int.toNat_natCast]
  exact Rat.mkRat_self q
theorem mk_num {a : Int} {n : Nat} (h : n ≠ 0) : (mkRat a n).num = a / (Nat.gcd a.natAbs n : Nat) ∧ (mkRat a n).den = n / Nat.gcd a.natAbs n := by
  unfold mkRat
  rw [dif_neg h, Rat.normalize_eq]
  exact ⟨rfl, rfl⟩
theorem madeD_rat {a b : Int} (h : 0 < b) : madeD a b = ratD (qf a b) := by
  obtain ⟨n, rfl⟩ : ∃ n : Nat, b = n := ⟨b.toNat, by omega⟩
  have hn : n ≠ 0 := by omega
  obtain ⟨h1, h2⟩ := mk_num (a := a) hn
  unfold madeD ratD fr qf
  rw [Int.toNat_natCast, h1, h2, Int.natAbs_natCast]
  rw [Int.fdiv_eq_ediv_of_nonneg _ (by omega), Int.fdiv_eq_ediv_of_nonneg _ (by omega)]
  simp
/-- of a size -/
def Fz (k : Nat) (a b : Int) : Prop := a.natAbs < 2 ^ k ∧ 0 < b ∧ b < 2 ^ k
def Qz (k : Nat) (q : Rat) : Prop := Fz k q.num q.den
theorem pow_mono {j k : Nat} (h : j ≤ k) : (2 : Nat) ^ j ≤ 2 ^ k := Nat.pow_le_pow_right (by decide) h
theorem powI_mono {j k : Nat} (h : j ≤ k) : (2 : Int) ^ j ≤ 2 ^ k := by
  have e1 : ((2 ^ j : Nat) : Int) = 2 ^ j := by simp
  have e2 : ((2 ^ k : Nat) : Int) = 2 ^ k := by simp
  have := pow_mono h
  omega
theorem Fz.mono {j k : Nat} {a b : Int} (h : j ≤ k) (z : Fz j a b) : Fz k a b := ⟨Nat.lt_of_lt_of_le z.1 (pow_mono h), z.2.1, Int.lt_of_lt_of_le z.2.2 (powI_mono h)⟩
theorem mulN {j k a b : Nat} (h : a < 2 ^ j) (h' : b < 2 ^ k) : a * b < 2 ^ (j + k) := by
  rw [Nat.pow_add]
  exact Nat.mul_lt_mul'' h h'
theorem Fz.mul {j k : Nat} {a b c d : Int} (z : Fz j a b) (y : Fz k c d) : Fz (j + k) (a * c) (b * d) := by
  obtain ⟨z1, z2, z3⟩ := z
  obtain ⟨y1, y2, y3⟩ := y
  refine ⟨by rw [Int.natAbs_mul]; exact mulN z1 y1, Int.mul_pos z2 y2, ?_⟩
  obtain ⟨n, rfl⟩ : ∃ n : Nat, b = n := ⟨b.toNat, by omega⟩
  obtain ⟨m, rfl⟩ : ∃ n : Nat, d = n := ⟨d.toNat, by omega⟩
  have e1 : ((2 ^ j : Nat) : Int) = 2 ^ j := by simp
  have e2 : ((2 ^ k : Nat) : Int) = 2 ^ k := by simp
  have e3 : ((2 ^ (j + k) : Nat) : Int) = 2 ^ (j + k) := by simp
  have := mulN (j := j) (k := k) (a := n) (b := m) (by omega) (by omega)
  rw [← e3]
  exact_mod_cast this
theorem Fz.add {j k : Nat} {a b c d : Int} (z : Fz j a b) (y : Fz k c d) : Fz (j + k + 1) (a * d + c * b) (b * d) := by
  have m := (z.mul y)
  obtain ⟨z1, z2, z3⟩ := z
  obtain ⟨y1, y2, y3⟩ := y
  refine ⟨?_, m.2.1, Int.lt_of_lt_of_le m.2.2 (powI_mono (by omega))⟩
  have h1 : b.natAbs < 2 ^ j := by
    have e1 : ((2 ^ j : Nat) : Int) = 2 ^ j := by simp
    omega
  have h2 : d.natAbs < 2 ^ k := by
    have e1 : ((2 ^ k : Nat) : Int) = 2 ^ k := by simp
    omega
  have h3 : (a * d).natAbs < 2 ^ (j + k) := by rw [Int.natAbs_mul]; exact mulN z1 h2
  have h4 : (c * b).natAbs < 2 ^ (j + k) := by rw [Int.natAbs_mul, Nat.add_comm]; exact mulN y1 h1
  have := Int.natAbs_add_le (a * d) (c * b)
  rw [Nat.pow_succ]
  omega
theorem Fz.q {k : Nat} {a b : Int} (z : Fz k a b) : Qz k (qf a b) := by
  obtain ⟨z1, z2, z3⟩ := z
  obtain ⟨n, rfl⟩ : ∃ n : Nat, b = n := ⟨b.toNat, by omega⟩
  have hn : n ≠ 0 := by omega
  obtain ⟨h1, h2⟩ := mk_num (a := a) hn
  have hg : 0 < Nat.gcd a.natAbs n := Nat.gcd_pos_of_pos_right _ (by omega)
  unfold Qz qf
  rw [Int.toNat_natCast]
  refine ⟨?_, by have := (mkRat a n).den_pos; omega, ?_⟩
  · rw [h1, Int.natAbs_ediv_of_dvd (by exact Int.ofNat_dvd_left.mpr (Nat.gcd_dvd_left _ _)), Int.natAbs_natCast]
    exact Nat.lt_of_le_of_lt (Nat.div_le_self _ _) z1
  · rw [h2]
    have := Nat.div_le_self n (Nat.gcd a.natAbs n)
    omega
theorem qf_mul {a b c d : Int} (h : 0 < b) (h' : 0 < d) : qf (a * c) (b * d) = qf a b * qf c d := by
  unfold qf
  rw [Rat.mkRat_mul_mkRat, Int.toNat_mul (by omega) (by omega)]
theorem qf_add {a b c d : Int} (h : 0 < b) (h' : 0 < d) : qf (a * d + c * b) (b * d) = qf a b + qf c d := by
  unfold qf
  rw [Rat.mkRat_add_mkRat _ _ (by omega) (by omega), Int.toNat_mul (by omega) (by omega), Int.toNat_of_nonneg (by omega), Int.toNat_of_nonneg (by omega)]
theorem Qz.mono {j k : Nat} {q : Rat} (h : j ≤ k) (z : Qz j q) : Qz k q := Fz.mono h z
theorem Qz.mul {j k : Nat} {p q : Rat} (z : Qz j p) (y : Qz k q) : Qz (j + k) (p * q) := by
  have := (Fz.mul z y).q
  rw [qf_mul z.2.1 y.2.1, qf_rat, qf_rat] at this
  exact this
theorem Qz.add {j k : Nat} {p q : Rat} (z : Qz j p) (y : Qz k q) : Qz (j + k + 1) (p + q) := by
  have := (Fz.add z y).q
  rw [qf_add z.2.1 y.2.1, qf_rat, qf_rat] at this
  exact this
theorem fz_mul {k : Nat} {a b : Int} (hk : k ≤ 3000) (h1 : a.natAbs < 2 ^ k) (h2 : b.natAbs < 2 ^ k) : cMul a b = true := cmul_ok (Nat.lt_of_lt_of_le h1 (pow_mono (by omega))) (Nat.lt_of_lt_of_le h2 (pow_mono (by omega)))
theorem Fz.bn {k : Nat} {a b : Int} (z : Fz k a b) : b.natAbs < 2 ^ k := by
  have e1 : ((2 ^ k : Nat) : Int) = 2 ^ k := by simp
  have := z.2
  omega
def cTimes : Ct := fun ds S Q _ => ∃ k a b c d, ds = [fr a b, fr c d] ∧ k ≤ 1500 ∧ Fz k a b ∧ Fz k c d ∧ Q (ratD (qf a b * qf c d)) S
def cPlus : Ct := fun ds S Q _ => ∃ k a b c d, ds = [fr a b, fr c d] ∧ k ≤ 1500 ∧ Fz k a b ∧ Fz k c d ∧ Q (ratD (qf a b + qf c d)) S
theorem times_ok (ds : List D) (S : Store) (Q : D → Store → Prop) (E : QX) (h : cTimes ds S Q E) : fstimes cMade (bodyEnds Q E) (startE Ntimes ds) S := by
  obtain ⟨k, a, b, c, d, rfl, hk, z, y, hq⟩ := h
  have m := z.mul y
  have h1 := fz_mul (by omega) z.1 y.1
  have h2 := fz_mul (by omega) z.bn y.bn
  simp [fstimes, seqS, setS, retS, retN, exprS, nilS, ifS, parS, asgS, bindT, bindTs, bindF, callC, varF, retF, consF, nilF, iteV, truF, truD, notF, andF, orF, andV, orV, notV, chF, chT, bodyEnds, startE, optF, idxF, slcF, intF, noF, newL, tyD, isiT, isiB, lenB, absB, intB, gcdB, tupB, lstB, ltG, leG, gtG, geG, isG, isnG, o2I, isO, getS, addF, subF, mulF, eqG_ii, neG_ii, neG_bb, fdivG, modG, powG, raiseS, wipeE, Ntimes, fr, L2.atI, L2.ixN, h1, h2]
  refine ⟨_, _, rfl, m.2.1, Int.lt_of_lt_of_le m.2.2 (powI_mono (by omega)), ?_⟩
  rw [madeD_rat m.2.1, qf_mul z.2.1 y.2.1]
  exact hq
theorem plus_ok (ds : List D) (S : Store) (Q : D → Store → Prop) (E : QX) (h : cPlus ds S Q E) : fsplus cMade (bodyEnds Q E) (startE Nplus ds) S := by
  obtain ⟨k, a, b, c, d, rfl, hk, z, y, hq⟩ := h
  have m := z.add y
  have h1 := fz_mul (by omega) z.1 y.bn
  have h2 := fz_mul (by omega) y.1 z.bn
  have h3 := fz_mul (by omega) z.bn y.bn
  simp [fsplus, seqS, setS, retS, retN, exprS, nilS, ifS, parS, asgS, bindT, bindTs, bindF, callC, varF, retF, consF, nilF, iteV, truF, truD, notF, andF, orF, andV, orV, notV, chF, chT, bodyEnds, startE, optF, idxF, slcF, intF, noF, newL, tyD, isiT, isiB, lenB, absB, intB, gcdB, tupB, lstB, ltG, leG, gtG, geG, isG, isnG, o2I, isO, getS, addF, subF, mulF, eqG_ii, neG_ii, neG_bb, fdivG, modG, powG, raiseS, wipeE, Nplus, fr, L2.atI, L2.ixN, h1, h2, h3]
  refine ⟨_, _, rfl, m.2.1, Int.lt_of_lt_of_le m.2.2 (powI_mono (by omega)), ?_⟩
  rw [madeD_rat m.2.1, qf_add z.2.1 y.2.1]
  exact hq
theorem ltimes_ok (ds : List D) (S : Store) (Q : D → Store → Prop) (E : QX) (h : cTimes ds S Q E) : fs_law_times cMade (bodyEnds Q E) (startE N_law_times ds) S := by
  obtain ⟨k, a, b, c, d, rfl, hk, z, y, hq⟩ := h
  have m := z.mul y
  have h1 := fz_mul (by omega) z.1 y.1
  have h2 := fz_mul (by omega) z.bn y.bn
  simp [fs_law_times, seqS, setS, retS, retN, exprS, nilS, ifS, parS, asgS, bindT, bindTs, bindF, callC, varF, retF, consF, nilF, iteV, truF, truD, notF, andF, orF, andV, orV, notV, chF, chT, bodyEnds, startE, optF, idxF, slcF, intF, noF, newL, tyD, isiT, isiB, lenB, absB, intB, gcdB, tupB, lstB, ltG, leG, gtG, geG, isG, isnG, o2I, isO, getS, addF, subF, mulF, eqG_ii, neG_ii, neG_bb, fdivG, modG, powG, raiseS, wipeE, N_law_times, fr, L2.atI, L2.ixN, h1, h2]
  refine ⟨_, _, rfl, m.2.1, Int.lt_of_lt_of_le m.2.2 (powI_mono (by omega)), ?_⟩
  rw [madeD_rat m.2.1, qf_mul z.2.1 y.2.1]
  exact hq
theorem lplus_ok (ds : List D) (S : Store) (Q : D → Store → Prop) (E : QX) (h : cPlus ds S Q E) : fs_law_plus cMade (bodyEnds Q E) (startE N_law_plus ds) S := by
  obtain ⟨k, a, b, c, d, rfl, hk, z, y, hq⟩ := h
  have m := z.add y
  have h1 := fz_mul (by omega) z.1 y.bn
  have h2 := fz_mul (by omega) y.1 z.bn
  have h3 := fz_mul (by omega) z.bn y.bn
  simp [fs_law_plus, seqS, setS, retS, retN, exprS, nilS, ifS, parS, asgS, bindT, bindTs, bindF, callC, varF, retF, consF, nilF, iteV, truF, truD, notF, andF, orF, andV, orV, notV, chF, chT, bodyEnds, startE, optF, idxF, slcF, intF, noF, newL, tyD, isiT, isiB, lenB, absB, intB, gcdB, tupB, lstB, ltG, leG, gtG, geG, isG, isnG, o2I, isO, getS, addF, subF, mulF, eqG_ii, neG_ii, neG_bb, fdivG, modG, powG, raiseS, wipeE, N_law_plus, fr, L2.atI, L2.ixN, h1, h2, h3]
  refine ⟨_, _, rfl, m.2.1, Int.lt_of_lt_of_le m.2.2 (powI_mono (by omega)), ?_⟩
  rw [madeD_rat m.2.1, qf_add z.2.1 y.2.1]
  exact hq

end LawX

set_option Elab.async false
set_option linter.all false
set_option maxRecDepth 100000
set_option maxHeartbeats 0
set_option exponentiation.threshold 5000
namespace LawX
open PySem PySem.Spec PyProof.Rows L2 Dx
/-! ### contracts over Rat -/
def rmin (p q : Rat) : Rat := if q < p then q else p
def rmax (p q : Rat) : Rat := if p < q then q else p
theorem fr_rat (p : Rat) : ratD p = fr p.num p.den := rfl
theorem num_lt {p q : Rat} : decide (p < q) = decide (p.num * q.den < q.num * p.den) := by
  rw [decide_eq_decide]
  exact Rat.lt_iff p q
def cLessR : Ct := fun ds S Q _ => ∃ k p q, ds = [ratD p, ratD q] ∧ k ≤ 1500 ∧ Qz k p ∧ Qz k q ∧ Q (.bl (decide (p < q))) S
theorem less_imp {ds : List D} {S : Store} {Q : D → Store → Prop} {E : QX} (h : cLessR ds S Q E) : cLess ds S Q E := by
  obtain ⟨k, p, q, rfl, hk, hp, hq, h⟩ := h
  refine ⟨p.num, p.den, q.num, q.den, rfl, fz_mul (k := k) (by omega) hp.1 hq.bn, fz_mul (k := k) (by omega) hq.1 hp.bn, ?_⟩
  rw [← num_lt]
  exact h
theorem less_okR (ds : List D) (S : Store) (Q : D → Store → Prop) (E : QX) (h : cLessR ds S Q E) : fsis_less (bodyEnds Q E) (startE Nis_less ds) S := less_ok ds S Q E (less_imp h)
theorem lless_okR (ds : List D) (S : Store) (Q : D → Store → Prop) (E : QX) (h : cLessR ds S Q E) : fs_law_is_less (bodyEnds Q E) (startE N_law_is_less ds) S := lawless_ok ds S Q E (less_imp h)
def cTimesR : Ct := fun ds S Q _ => ∃ k p q, ds = [ratD p, ratD q] ∧ k ≤ 1500 ∧ Qz k p ∧ Qz k q ∧ Q (ratD (p * q)) S
def cPlusR : Ct := fun ds S Q _ => ∃ k p q, ds = [ratD p, ratD q] ∧ k ≤ 1500 ∧ Qz k p ∧ Qz k q ∧ Q (ratD (p + q)) S
theorem times_imp {ds : List D} {S : Store} {Q : D → Store → Prop} {E : QX} (h : cTimesR ds S Q E) : cTimes ds S Q E := by
  obtain ⟨k, p, q, rfl, hk, hp, hq, h⟩ := h
  exact ⟨k, p.num, p.den, q.num, q.den, rfl, hk, hp, hq, by rw [qf_rat, qf_rat]; exact h⟩
theorem plus_imp {ds : List D} {S : Store} {Q : D → Store → Prop} {E : QX} (h : cPlusR ds S Q E) : cPlus ds S Q E := by
  obtain ⟨k, p, q, rfl, hk, hp, hq, h⟩ := h
  exact ⟨k, p.num, p.den, q.num, q.den, rfl, hk, hp, hq, by rw [qf_rat, qf_rat]; exact h⟩
/-! made, of any sign below -/
def qz (a b : Int) : Rat := if 0 < b then qf a b else qf (-a) (-b)
def cMadeQ : Ct := fun ds S Q _ => ∃ a b : Int, ds = [.int a, .int b] ∧ b ≠ 0 ∧ b.natAbs < 2 ^ 4000 ∧ Q (ratD (qz a b)) S
theorem qz_made {a b : Int} (h : b ≠ 0) : ratD (qz a b) = .tup [.int (a.fdiv (if 0 < b then (Nat.gcd a.natAbs b.natAbs : Int) else -(Nat.gcd a.natAbs b.natAbs : Int))), .int (b.fdiv (if 0 < b then (Nat.gcd a.natAbs b.natAbs : Int) else -(Nat.gcd a.natAbs b.natAbs : Int)))] := by
  unfold qz
  by_cases hb : 0 < b
  · rw [if_pos hb, if_pos hb, ← madeD_rat hb]
    rfl
  · rw [if_neg hb, if_neg hb, ← madeD_rat (by omega)]
    unfold madeD
    rw [Int.natAbs_neg, Int.natAbs_neg]
    have e : ∀ x : Int, (-x).fdiv (Nat.gcd a.natAbs b.natAbs : Int) = x.fdiv (-(Nat.gcd a.natAbs b.natAbs : Int)) := fun x => by
      have := Int.neg_fdiv_neg (a := -x) (b := (Nat.gcd a.natAbs b.natAbs : Int))
      rw [Int.neg_neg] at this
      exact this.symm
    rw [e, e]
theorem gcd_pos' {a b : Int} (h : b ≠ 0) : 0 < Nat.gcd a.natAbs b.natAbs := Nat.gcd_pos_of_pos_right _ (by omega)
theorem div_gcd {a b : Int} (c : Int) (h : b ≠ 0) (hb : b.natAbs < 2 ^ 4000) (s : Int) (hs : s = (Nat.gcd a.natAbs b.natAbs : Int) ∨ s = -(Nat.gcd a.natAbs b.natAbs : Int)) : cDiv c s = true ∧ s ≠ 0 := by
  have g0 := gcd_pos' (a := a) h
  have g1 : Nat.gcd a.natAbs b.natAbs ≤ b.natAbs := Nat.le_of_dvd (by omega) (Nat.gcd_dvd_right _ _)
  have e : s.natAbs = Nat.gcd a.natAbs b.natAbs := by omega
  refine ⟨?_, by omega⟩
  have := cdiv_ok (a := 0) (b := (s.natAbs : Int)) c (by omega) (by
    have e2 : ((2 ^ 4000 : Nat) : Int) = 2 ^ 4000 := by simp
    omega)
  unfold cDiv at this ⊢
  simpa using this
theorem madeQ_ok (ds : List D) (S : Store) (Q : D → Store → Prop) (E : QX) (h : cMadeQ ds S Q E) : fsmade (bodyEnds Q E) (startE Nmade ds) S := by
  obtain ⟨a, b, rfl, hb, hl, hq⟩ := h
  rw [qz_made hb] at hq
  by_cases h0 : 0 < b
  · obtain ⟨d1, d2⟩ := div_gcd (a := a) a hb hl _ (.inl rfl)
    obtain ⟨d3, _⟩ := div_gcd (a := a) b hb hl _ (.inl rfl)
    rw [if_pos h0] at hq
    simp [fsmade, seqS, setS, retS, retN, exprS, nilS, ifS, parS, asgS, bindT, bindTs, bindF, callC, varF, retF, consF, nilF, iteV, truF, truD, notF, andF, orF, andV, orV, notV, chF, chT, bodyEnds, startE, optF, idxF, slcF, intF, noF, newL, tyD, isiT, isiB, lenB, absB, intB, gcdB, tupB, lstB, ltG, leG, gtG, geG, isG, isnG, o2I, isO, getS, addF, subF, mulF, eqG_ii, neG_ii, neG_bb, fdivG, modG, powG, raiseS, wipeE, Nmade, h0, d1, d3, d2]
    exact ⟨by rw [sizeLine_eq]; decide, hq⟩
  · obtain ⟨d1, d2⟩ := div_gcd (a := a) a hb hl _ (.inr rfl)
    obtain ⟨d3, _⟩ := div_gcd (a := a) b hb hl _ (.inr rfl)
    rw [if_neg h0] at hq
    simp [fsmade, seqS, setS, retS, retN, exprS, nilS, ifS, parS, asgS, bindT, bindTs, bindF, callC, varF, retF, consF, nilF, iteV, truF, truD, notF, andF, orF, andV, orV, notV, chF, chT, bodyEnds, startE, optF, idxF, slcF, intF, noF, newL, tyD, isiT, isiB, lenB, absB, intB, gcdB, tupB, lstB, ltG, leG, gtG, geG, isG, isnG, o2I, isO, getS, addF, subF, mulF, eqG_ii, neG_ii, neG_bb, fdivG, modG, powG, raiseS, wipeE, Nmade, h0, d1, d3, d2]
    exact ⟨by rw [sizeLine_eq]; decide, hq⟩
theorem lmadeQ_ok (ds : List D) (S : Store) (Q : D → Store → Prop) (E : QX) (h : cMadeQ ds S Q E) : fs_law_made cCommon (bodyEnds Q E) (startE N_law_made ds) S := by
  obtain ⟨a, b, rfl, hb, hl, hq⟩ := h
  rw [qz_made hb] at hq
  by_cases h0 : 0 < b
  · obtain ⟨d1, d2⟩ := div_gcd (a := a) a hb hl _ (.inl rfl)
    obtain ⟨d3, _⟩ := div_gcd (a := a) b hb hl _ (.inl rfl)
    rw [if_pos h0] at hq
    simp [fs_law_made, seqS, setS, retS, retN, exprS, nilS, ifS, parS, asgS, bindT, bindTs, bindF, callC, varF, retF, consF, nilF, iteV, truF, truD, notF, andF, orF, andV, orV, notV, chF, chT, bodyEnds, startE, optF, idxF, slcF, intF, noF, newL, tyD, isiT, isiB, lenB, absB, intB, gcdB, tupB, lstB, ltG, leG, gtG, geG, isG, isnG, o2I, isO, getS, addF, subF, mulF, eqG_ii, neG_ii, neG_bb, fdivG, modG, powG, raiseS, wipeE, N_law_made]
    refine ⟨a, b, rfl, ?_⟩
    simp [seqS, setS, retS, retN, exprS, nilS, ifS, parS, asgS, bindT, bindTs, bindF, callC, varF, retF, consF, nilF, iteV, truF, truD, notF, andF, orF, andV, orV, notV, chF, chT, bodyEnds, startE, optF, idxF, slcF, intF, noF, newL, tyD, isiT, isiB, lenB, absB, intB, gcdB, tupB, lstB, ltG, leG, gtG, geG, isG, isnG, o2I, isO, getS, addF, subF, mulF, eqG_ii, neG_ii, neG_bb, fdivG, modG, powG, raiseS, wipeE, h0, d1, d3, d2]
    exact ⟨by rw [sizeLine_eq]; decide, hq⟩
  · obtain ⟨d1, d2⟩ := div_gcd (a := a) a hb hl _ (.inr rfl)
    obtain ⟨d3, _⟩ := div_gcd (a := a) b hb hl _ (.inr rfl)
    rw [if_neg h0] at hq
    simp [fs_law_made, seqS, setS, retS, retN, exprS, nilS, ifS, parS, asgS, bindT, bindTs, bindF, callC, varF, retF, consF, nilF, iteV, truF, truD, notF, andF, orF, andV, orV, notV, chF, chT, bodyEnds, startE, optF, idxF, slcF, intF, noF, newL, tyD, isiT, isiB, lenB, absB, intB, gcdB, tupB, lstB, ltG, leG, gtG, geG, isG, isnG, o2I, isO, getS, addF, subF, mulF, eqG_ii, neG_ii, neG_bb, fdivG, modG, powG, raiseS, wipeE, N_law_made]
    refine ⟨a, b, rfl, ?_⟩
    simp [seqS, setS, retS, retN, exprS, nilS, ifS, parS, asgS, bindT, bindTs, bindF, callC, varF, retF, consF, nilF, iteV, truF, truD, notF, andF, orF, andV, orV, notV, chF, chT, bodyEnds, startE, optF, idxF, slcF, intF, noF, newL, tyD, isiT, isiB, lenB, absB, intB, gcdB, tupB, lstB, ltG, leG, gtG, geG, isG, isnG, o2I, isO, getS, addF, subF, mulF, eqG_ii, neG_ii, neG_bb, fdivG, modG, powG, raiseS, wipeE, h0, d1, d3, d2]
    exact ⟨by rw [sizeLine_eq]; decide, hq⟩
end LawX

set_option Elab.async false
set_option linter.all false
set_option maxRecDepth 100000
set_option maxHeartbeats 0
set_option exponentiation.threshold 5000
namespace LawX
open PySem PySem.Spec PyProof.Rows L2 Dx
/-! ### minus, least, most, quotients -/
theorem neg_rat (p : Rat) : ratD (-p) = .tup [.int (-p.num), .int p.den] := rfl
theorem Qz.neg {k : Nat} {p : Rat} (z : Qz k p) : Qz k (-p) := by
  obtain ⟨h1, h2, h3⟩ := z
  exact ⟨by show (-p.num).natAbs < _; rw [Int.natAbs_neg]; exact h1, h2, h3⟩
theorem Qz.rmin {k : Nat} {p q : Rat} (z : Qz k p) (y : Qz k q) : Qz k (rmin p q) := by unfold LawX.rmin; split <;> assumption
theorem Qz.rmax {k : Nat} {p q : Rat} (z : Qz k p) (y : Qz k q) : Qz k (rmax p q) := by unfold LawX.rmax; split <;> assumption
def cMinusR : Ct := fun ds S Q _ => ∃ p, ds = [ratD p] ∧ Q (ratD (-p)) S
theorem minus_okR (ds : List D) (S : Store) (Q : D → Store → Prop) (E : QX) (h : cMinusR ds S Q E) : fsminus (bodyEnds Q E) (startE Nminus ds) S := by
  obtain ⟨p, rfl, hq⟩ := h
  have hs := sizeLine_eq
  rw [neg_rat] at hq
  simp [fsminus, ratD, fr, L2.atI, L2.ixN, seqS, setS, retS, retN, exprS, nilS, ifS, parS, asgS, bindT, bindTs, bindF, callC, varF, retF, consF, nilF, iteV, truF, truD, notF, andF, orF, andV, orV, notV, chF, chT, bodyEnds, startE, optF, idxF, slcF, intF, noF, newL, tyD, isiT, isiB, lenB, absB, intB, gcdB, tupB, lstB, ltG, leG, gtG, geG, isG, isnG, o2I, isO, getS, addF, subF, mulF, eqG_ii, neG_ii, neG_bb, fdivG, modG, powG, raiseS, wipeE, Nminus]
  exact ⟨by rw [hs]; decide, hq⟩
theorem lminus_okR (ds : List D) (S : Store) (Q : D → Store → Prop) (E : QX) (h : cMinusR ds S Q E) : fs_law_minus (bodyEnds Q E) (startE N_law_minus ds) S := by
  obtain ⟨p, rfl, hq⟩ := h
  have hs := sizeLine_eq
  rw [neg_rat] at hq
  simp [fs_law_minus, ratD, fr, L2.atI, L2.ixN, seqS, setS, retS, retN, exprS, nilS, ifS, parS, asgS, bindT, bindTs, bindF, callC, varF, retF, consF, nilF, iteV, truF, truD, notF, andF, orF, andV, orV, notV, chF, chT, bodyEnds, startE, optF, idxF, slcF, intF, noF, newL, tyD, isiT, isiB, lenB, absB, intB, gcdB, tupB, lstB, ltG, leG, gtG, geG, isG, isnG, o2I, isO, getS, addF, subF, mulF, eqG_ii, neG_ii, neG_bb, fdivG, modG, powG, raiseS, wipeE, N_law_minus]
  exact ⟨by rw [hs]; decide, hq⟩
def cSubR : Ct := fun ds S Q _ => ∃ k p q, ds = [ratD p, ratD q] ∧ k ≤ 1500 ∧ Qz k p ∧ Qz k q ∧ Q (ratD (p + -q)) S
theorem sub_okR (ds : List D) (S : Store) (Q : D → Store → Prop) (E : QX) (h : cSubR ds S Q E) : fsless cPlusR cMinusR (bodyEnds Q E) (startE Nless ds) S := by
  obtain ⟨k, p, q, rfl, hk, hp, hq, h⟩ := h
  simp [fsless, seqS, setS, retS, retN, exprS, nilS, ifS, parS, asgS, bindT, bindTs, bindF, callC, varF, retF, consF, nilF, iteV, truF, truD, notF, andF, orF, andV, orV, notV, chF, chT, bodyEnds, startE, optF, idxF, slcF, intF, noF, newL, tyD, isiT, isiB, lenB, absB, intB, gcdB, tupB, lstB, ltG, leG, gtG, geG, isG, isnG, o2I, isO, getS, addF, subF, mulF, eqG_ii, neG_ii, neG_bb, fdivG, modG, powG, raiseS, wipeE, Nless]
  exact ⟨q, rfl, k, p, -q, rfl, hk, hp, hq.neg, h⟩
def cMinR : Ct := fun ds S Q _ => ∃ k p q, ds = [ratD p, ratD q] ∧ k ≤ 1500 ∧ Qz k p ∧ Qz k q ∧ Q (ratD (rmin p q)) S
def cMaxR : Ct := fun ds S Q _ => ∃ k p q, ds = [ratD p, ratD q] ∧ k ≤ 1500 ∧ Qz k p ∧ Qz k q ∧ Q (ratD (rmax p q)) S
theorem least_okR (ds : List D) (S : Store) (Q : D → Store → Prop) (E : QX) (h : cMinR ds S Q E) : fsleast cLessR (bodyEnds Q E) (startE Nleast ds) S := by
  obtain ⟨k, p, q, rfl, hk, hp, hq, h⟩ := h
  simp [fsleast, seqS, setS, retS, retN, exprS, nilS, ifS, parS, asgS, bindT, bindTs, bindF, callC, varF, retF, consF, nilF, iteV, truF, truD, notF, andF, orF, andV, orV, notV, chF, chT, bodyEnds, startE, optF, idxF, slcF, intF, noF, newL, tyD, isiT, isiB, lenB, absB, intB, gcdB, tupB, lstB, ltG, leG, gtG, geG, isG, isnG, o2I, isO, getS, addF, subF, mulF, eqG_ii, neG_ii, neG_bb, fdivG, modG, powG, raiseS, wipeE, Nleast]
  refine ⟨k, q, p, rfl, hk, hq, hp, ?_⟩
  unfold rmin at h
  by_cases c : q < p <;> simp [c, seqS, setS, retS, retN, exprS, nilS, ifS, parS, asgS, bindT, bindTs, bindF, callC, varF, retF, consF, nilF, iteV, truF, truD, notF, andF, orF, andV, orV, notV, chF, chT, bodyEnds, startE, optF, idxF, slcF, intF, noF, newL, tyD, isiT, isiB, lenB, absB, intB, gcdB, tupB, lstB, ltG, leG, gtG, geG, isG, isnG, o2I, isO, getS, addF, subF, mulF, eqG_ii, neG_ii, neG_bb, fdivG, modG, powG, raiseS, wipeE] at h ⊢ <;> exact h
theorem most_okR (ds : List D) (S : Store) (Q : D → Store → Prop) (E : QX) (h : cMaxR ds S Q E) : fsmost cLessR (bodyEnds Q E) (startE Nmost ds) S := by
  obtain ⟨k, p, q, rfl, hk, hp, hq, h⟩ := h
  simp [fsmost, seqS, setS, retS, retN, exprS, nilS, ifS, parS, asgS, bindT, bindTs, bindF, callC, varF, retF, consF, nilF, iteV, truF, truD, notF, andF, orF, andV, orV, notV, chF, chT, bodyEnds, startE, optF, idxF, slcF, intF, noF, newL, tyD, isiT, isiB, lenB, absB, intB, gcdB, tupB, lstB, ltG, leG, gtG, geG, isG, isnG, o2I, isO, getS, addF, subF, mulF, eqG_ii, neG_ii, neG_bb, fdivG, modG, powG, raiseS, wipeE, Nmost]
  refine ⟨k, p, q, rfl, hk, hp, hq, ?_⟩
  unfold rmax at h
  by_cases c : p < q <;> simp [c, seqS, setS, retS, retN, exprS, nilS, ifS, parS, asgS, bindT, bindTs, bindF, callC, varF, retF, consF, nilF, iteV, truF, truD, notF, andF, orF, andV, orV, notV, chF, chT, bodyEnds, startE, optF, idxF, slcF, intF, noF, newL, tyD, isiT, isiB, lenB, absB, intB, gcdB, tupB, lstB, ltG, leG, gtG, geG, isG, isnG, o2I, isO, getS, addF, subF, mulF, eqG_ii, neG_ii, neG_bb, fdivG, modG, powG, raiseS, wipeE] at h ⊢ <;> exact h
theorem lesser_okR (ds : List D) (S : Store) (Q : D → Store → Prop) (E : QX) (h : cMinR ds S Q E) : fs_law_lesser cLessR (bodyEnds Q E) (startE N_law_lesser ds) S := by
  obtain ⟨k, p, q, rfl, hk, hp, hq, h⟩ := h
  simp [fs_law_lesser, seqS, setS, retS, retN, exprS, nilS, ifS, parS, asgS, bindT, bindTs, bindF, callC, varF, retF, consF, nilF, iteV, truF, truD, notF, andF, orF, andV, orV, notV, chF, chT, bodyEnds, startE, optF, idxF, slcF, intF, noF, newL, tyD, isiT, isiB, lenB, absB, intB, gcdB, tupB, lstB, ltG, leG, gtG, geG, isG, isnG, o2I, isO, getS, addF, subF, mulF, eqG_ii, neG_ii, neG_bb, fdivG, modG, powG, raiseS, wipeE, N_law_lesser]
  refine ⟨k, q, p, rfl, hk, hq, hp, ?_⟩
  unfold rmin at h
  by_cases c : q < p <;> simp [c, seqS, setS, retS, retN, exprS, nilS, ifS, parS, asgS, bindT, bindTs, bindF, callC, varF, retF, consF, nilF, iteV, truF, truD, notF, andF, orF, andV, orV, notV, chF, chT, bodyEnds, startE, optF, idxF, slcF, intF, noF, newL, tyD, isiT, isiB, lenB, absB, intB, gcdB, tupB, lstB, ltG, leG, gtG, geG, isG, isnG, o2I, isO, getS, addF, subF, mulF, eqG_ii, neG_ii, neG_bb, fdivG, modG, powG, raiseS, wipeE] at h ⊢ <;> exact h
theorem greater_okR (ds : List D) (S : Store) (Q : D → Store → Prop) (E : QX) (h : cMaxR ds S Q E) : fs_law_greater cLessR (bodyEnds Q E) (startE N_law_greater ds) S := by
  obtain ⟨k, p, q, rfl, hk, hp, hq, h⟩ := h
  simp [fs_law_greater, seqS, setS, retS, retN, exprS, nilS, ifS, parS, asgS, bindT, bindTs, bindF, callC, varF, retF, consF, nilF, iteV, truF, truD, notF, andF, orF, andV, orV, notV, chF, chT, bodyEnds, startE, optF, idxF, slcF, intF, noF, newL, tyD, isiT, isiB, lenB, absB, intB, gcdB, tupB, lstB, ltG, leG, gtG, geG, isG, isnG, o2I, isO, getS, addF, subF, mulF, eqG_ii, neG_ii, neG_bb, fdivG, modG, powG, raiseS, wipeE, N_law_greater]
  refine ⟨k, p, q, rfl, hk, hp, hq, ?_⟩
  unfold rmax at h
  by_cases c : p < q <;> simp [c, seqS, setS, retS, retN, exprS, nilS, ifS, parS, asgS, bindT, bindTs, bindF, callC, varF, retF, consF, nilF, iteV, truF, truD, notF, andF, orF, andV, orV, notV, chF, chT, bodyEnds, startE, optF, idxF, slcF, intF, noF, newL, tyD, isiT, isiB, lenB, absB, intB, gcdB, tupB, lstB, ltG, leG, gtG, geG, isG, isnG, o2I, isO, getS, addF, subF, mulF, eqG_ii, neG_ii, neG_bb, fdivG, modG, powG, raiseS, wipeE] at h ⊢ <;> exact h
/-! ### quotients -/
theorem qz_div {a b : Int} (h : b ≠ 0) : qz a b = (a : Rat) * ((b : Rat))⁻¹ := by
  have key : ∀ {a b : Int}, 0 < b → qf a b = (a : Rat) * ((b : Rat))⁻¹ := fun {a b} hb => by
    unfold qf
    rw [Rat.mkRat_eq_div, Rat.div_def]
    congr 2
    have : (b.toNat : Int) = b := Int.toNat_of_nonneg (by omega)
    exact_mod_cast congrArg (fun z : Int => (z : Rat)) this
  unfold qz
  by_cases hb : 0 < b
  · rw [if_pos hb, key hb]
  · rw [if_neg hb, key (by omega)]
    have hz : (b : Rat) ≠ 0 := by exact_mod_cast h
    rw [Rat.intCast_neg, Rat.intCast_neg]
    grind
theorem rat_den (p : Rat) : p * ((p.den : Int) : Rat) = (p.num : Rat) := by
  have h : mkRat p.num p.den * mkRat (p.den : Int) 1 = mkRat p.num 1 := by
    rw [Rat.mkRat_mul_mkRat, Rat.mkRat_eq_iff (by have := p.den_pos; omega) (by omega)]
    simp
  rw [Rat.mkRat_self, Rat.mkRat_one, Rat.mkRat_one] at h
  exact h
theorem den_ne (p : Rat) : ((p.den : Int) : Rat) ≠ 0 := by
  have := p.den_nz
  exact_mod_cast this
theorem num_ne {p : Rat} (h : p ≠ 0) : p.num ≠ 0 := fun z => h (by
  have e := rat_den p
  rw [z] at e
  have := den_ne p
  have e2 : ((0 : Int) : Rat) = 0 := rfl
  rw [e2] at e
  grind)
theorem Fz.qz {k : Nat} {a b : Int} (h : b ≠ 0) (h1 : a.natAbs < 2 ^ k) (h2 : b.natAbs < 2 ^ k) : Qz k (qz a b) := by
  have e2 : ((2 ^ k : Nat) : Int) = 2 ^ k := by simp
  unfold LawX.qz
  by_cases hb : 0 < b
  · rw [if_pos hb]; exact Fz.q ⟨h1, hb, by omega⟩
  · rw [if_neg hb]; exact Fz.q ⟨by rw [Int.natAbs_neg]; exact h1, by omega, by omega⟩
theorem qz_inv {p : Rat} (h : p ≠ 0) : qz p.den p.num = p⁻¹ := by
  rw [qz_div (num_ne h), ← rat_den p]
  have := den_ne p
  grind
theorem qz_quo {p q : Rat} (h : q ≠ 0) : qz (p.num * q.den) (p.den * q.num) = p * q⁻¹ := by
  have h1 := den_ne p
  have h2 := den_ne q
  have h3 := num_ne h
  have hd : (p.den : Int) * q.num ≠ 0 := Int.mul_ne_zero (by have := p.den_nz; omega) h3
  rw [qz_div hd, Rat.intCast_mul, Rat.intCast_mul, ← rat_den p, ← rat_den q]
  grind
theorem Qz.inv {k : Nat} {p : Rat} (z : Qz k p) (h : p ≠ 0) : Qz k p⁻¹ := by
  rw [← qz_inv h]
  exact Fz.qz (num_ne h) z.bn z.1
def cInvR : Ct := fun ds S Q _ => ∃ k p, ds = [ratD p] ∧ k ≤ 1500 ∧ Qz k p ∧ p ≠ 0 ∧ Q (ratD p⁻¹) S
theorem inv_okR (ds : List D) (S : Store) (Q : D → Store → Prop) (E : QX) (h : cInvR ds S Q E) : fsinverse cMadeQ (bodyEnds Q E) (startE Ninverse ds) S := by
  obtain ⟨k, p, rfl, hk, hp, h0, h⟩ := h
  simp [fsinverse, ratD, fr, L2.atI, L2.ixN, seqS, setS, retS, retN, exprS, nilS, ifS, parS, asgS, bindT, bindTs, bindF, callC, varF, retF, consF, nilF, iteV, truF, truD, notF, andF, orF, andV, orV, notV, chF, chT, bodyEnds, startE, optF, idxF, slcF, intF, noF, newL, tyD, isiT, isiB, lenB, absB, intB, gcdB, tupB, lstB, ltG, leG, gtG, geG, isG, isnG, o2I, isO, getS, addF, subF, mulF, eqG_ii, neG_ii, neG_bb, fdivG, modG, powG, raiseS, wipeE, Ninverse]
  exact ⟨p.den, p.num, rfl, num_ne h0, Nat.lt_of_lt_of_le hp.1 (pow_mono (by omega)), by rw [qz_inv h0]; exact h⟩
def cByR : Ct := fun ds S Q _ => ∃ k p q, ds = [ratD p, ratD q] ∧ k ≤ 1500 ∧ Qz k p ∧ Qz k q ∧ q ≠ 0 ∧ Q (ratD (p * q⁻¹)) S
theorem by_okR (ds : List D) (S : Store) (Q : D → Store → Prop) (E : QX) (h : cByR ds S Q E) : fs_law_by cMadeQ (bodyEnds Q E) (startE N_law_by ds) S := by
  obtain ⟨k, p, q, rfl, hk, hp, hq, h0, h⟩ := h
  have c1 := fz_mul (k := k) (by omega) hp.1 hq.bn
  have c2 := fz_mul (k := k) (by omega) hp.bn hq.1
  simp [fs_law_by, ratD, fr, L2.atI, L2.ixN, seqS, setS, retS, retN, exprS, nilS, ifS, parS, asgS, bindT, bindTs, bindF, callC, varF, retF, consF, nilF, iteV, truF, truD, notF, andF, orF, andV, orV, notV, chF, chT, bodyEnds, startE, optF, idxF, slcF, intF, noF, newL, tyD, isiT, isiB, lenB, absB, intB, gcdB, tupB, lstB, ltG, leG, gtG, geG, isG, isnG, o2I, isO, getS, addF, subF, mulF, eqG_ii, neG_ii, neG_bb, fdivG, modG, powG, raiseS, wipeE, N_law_by, c1, c2]
  refine ⟨p.num * q.den, p.den * q.num, rfl, Int.mul_ne_zero (by have := p.den_nz; omega) (num_ne h0), ?_, by rw [qz_quo h0]; exact h⟩
  rw [Int.natAbs_mul]
  exact Nat.lt_of_lt_of_le (mulN hp.bn hq.1) (pow_mono (by omega))
end LawX

set_option Elab.async false
set_option linter.all false
set_option maxRecDepth 100000
set_option maxHeartbeats 0
set_option exponentiation.threshold 5000
namespace LawX
open PySem PySem.Spec PyProof.Rows L2 Dx
/-! ### stretches -/
def stD (p q : Rat) : D := .tup [ratD p, ratD q]
theorem isAny_rat (p : Rat) : isAny (ratD p) = true := by
  have h1 := p.den_pos
  have h2 := p.reduced
  unfold Nat.Coprime at h2
  simp only [ratD, fr, isAny, Bool.and_eq_true, decide_eq_true_eq, Int.natAbs_natCast]
  exact ⟨by omega, h2⟩
theorem isStr_st {p q : Rat} (h : p ≤ q) : isStr (stD p q) = true := by
  have e : lessB (ratD q) (ratD p) = decide (q < p) := by rw [num_lt]; rfl
  have e2 : ¬ q < p := Rat.not_lt.mpr h
  simp [stD, isStr, isAny_rat, e, e2]
theorem okD_rat {k l : Nat} {p : Rat} (z : Qz k p) (hk : k ≤ 4000) (hl : 2 ≤ l) : okD l (ratD p) = true := by
  refine okD_tup.mpr ⟨hl, fun d hd => ?_⟩
  simp only [List.mem_cons, List.not_mem_nil, or_false] at hd
  rcases hd with rfl | rfl
  · exact okD_int.mpr (Nat.lt_of_lt_of_le z.1 (pow_mono hk))
  · exact okD_int.mpr (Nat.lt_of_lt_of_le z.bn (pow_mono hk))
theorem okD_st {k l : Nat} {p q : Rat} (z : Qz k p) (y : Qz k q) (hk : k ≤ 4000) (hl : 2 ≤ l) : okD l (stD p q) = true := by
  refine okD_tup.mpr ⟨hl, fun d hd => ?_⟩
  simp only [List.mem_cons, List.not_mem_nil, or_false] at hd
  rcases hd with rfl | rfl
  · exact okD_rat z hk hl
  · exact okD_rat y hk hl
def cNeedSt : Ct := fun ds S Q E => ∃ v l, ds = [v] ∧ okD l v = true ∧ (isStr v = true → Q .non S) ∧ (isStr v = false → E ⟨"InvalidStretch", []⟩ S)
theorem needSt_ok (ds : List D) (S : Store) (Q : D → Store → Prop) (E : QX) (h : cNeedSt ds S Q E) : fsneed_stretch cStr (bodyEnds Q E) (startE Nneed_stretch ds) S := by
  obtain ⟨v, l, rfl, hv, h1, h2⟩ := h
  simp [fsneed_stretch, seqS, setS, retS, retN, exprS, nilS, ifS, parS, asgS, bindT, bindTs, bindF, callC, varF, retF, consF, nilF, iteV, truF, truD, notF, andF, orF, andV, orV, notV, chF, chT, bodyEnds, startE, optF, idxF, slcF, intF, noF, newL, tyD, isiT, isiB, lenB, absB, intB, gcdB, tupB, lstB, ltG, leG, gtG, geG, isG, isnG, o2I, isO, getS, addF, subF, mulF, eqG_ii, neG_ii, neG_bb, fdivG, modG, powG, raiseS, wipeE, Nneed_stretch]
  refine ⟨v, l, rfl, hv, ?_⟩
  by_cases hs : isStr v = true
  · simp [hs, seqS, setS, retS, retN, exprS, nilS, ifS, parS, asgS, bindT, bindTs, bindF, callC, varF, retF, consF, nilF, iteV, truF, truD, notF, andF, orF, andV, orV, notV, chF, chT, bodyEnds, startE, optF, idxF, slcF, intF, noF, newL, tyD, isiT, isiB, lenB, absB, intB, gcdB, tupB, lstB, ltG, leG, gtG, geG, isG, isnG, o2I, isO, getS, addF, subF, mulF, eqG_ii, neG_ii, neG_bb, fdivG, modG, powG, raiseS, wipeE]
    exact h1 hs
  · simp only [Bool.not_eq_true] at hs
    simp [hs, seqS, setS, retS, retN, exprS, nilS, ifS, parS, asgS, bindT, bindTs, bindF, callC, varF, retF, consF, nilF, iteV, truF, truD, notF, andF, orF, andV, orV, notV, chF, chT, bodyEnds, startE, optF, idxF, slcF, intF, noF, newL, tyD, isiT, isiB, lenB, absB, intB, gcdB, tupB, lstB, ltG, leG, gtG, geG, isG, isnG, o2I, isO, getS, addF, subF, mulF, eqG_ii, neG_ii, neG_bb, fdivG, modG, powG, raiseS, wipeE]
    exact h2 hs
def cNeedTwo : Ct := fun ds S Q E => ∃ v u l, ds = [v, u] ∧ okD l v = true ∧ okD l u = true ∧ (isStr v = false → E ⟨"InvalidStretch", []⟩ S) ∧ (isStr v = true → isStr u = false → E ⟨"InvalidStretch", []⟩ S) ∧ (isStr v = true → isStr u = true → Q .non S)
theorem needTwo_ok (ds : List D) (S : Store) (Q : D → Store → Prop) (E : QX) (h : cNeedTwo ds S Q E) : fsneed_two cNeedSt (bodyEnds Q E) (startE Nneed_two ds) S := by
  obtain ⟨v, u, l, rfl, hv, hu, h1, h2, h3⟩ := h
  simp [fsneed_two, seqS, setS, retS, retN, exprS, nilS, ifS, parS, asgS, bindT, bindTs, bindF, callC, varF, retF, consF, nilF, iteV, truF, truD, notF, andF, orF, andV, orV, notV, chF, chT, bodyEnds, startE, optF, idxF, slcF, intF, noF, newL, tyD, isiT, isiB, lenB, absB, intB, gcdB, tupB, lstB, ltG, leG, gtG, geG, isG, isnG, o2I, isO, getS, addF, subF, mulF, eqG_ii, neG_ii, neG_bb, fdivG, modG, powG, raiseS, wipeE, Nneed_two]
  refine ⟨v, l, rfl, hv, fun a => ?_, fun a => h1 a⟩
  exact ⟨u, l, rfl, hu, fun b => h3 a b, fun b => h2 a b⟩
/-! ### least and greatest -/
def minL : List Rat → Rat
  | [] => 0
  | p :: r => r.foldl rmin p
def maxR : List Rat → Rat
  | [] => 0
  | p :: r => r.foldl rmax p
def hullD (ps : List Rat) : D := stD (minL ps) (maxR ps)
theorem fold_min : ∀ (r : List Rat) (p : Rat), r.foldl rmin p ∈ p :: r ∧ ∀ x ∈ p :: r, r.foldl rmin p ≤ x
  | [], p => ⟨by simp, fun x hx => by simp at hx; subst hx; exact Rat.le_refl⟩
  | y :: r, p => by
    obtain ⟨h1, h2⟩ := fold_min r (rmin p y)
    have hm : rmin p y = p ∨ rmin p y = y := by unfold rmin; split <;> simp
    have hp : rmin p y ≤ p := by unfold rmin; split; exact Rat.le_of_lt (by assumption); exact Rat.le_refl
    have hy : rmin p y ≤ y := by unfold rmin; split; exact Rat.le_refl; exact Rat.not_lt.mp (by assumption)
    show List.foldl rmin (rmin p y) r ∈ _ ∧ ∀ x ∈ p :: y :: r, List.foldl rmin (rmin p y) r ≤ x
    have h0 := h2 _ List.mem_cons_self
    refine ⟨?_, fun x hx => ?_⟩
    · rcases List.mem_cons.mp h1 with e | e
      · rw [e]; rcases hm with e2 | e2 <;> rw [e2] <;> simp
      · simp [e]
    · rcases List.mem_cons.mp hx with rfl | hx
      · exact Rat.le_trans h0 hp
      · rcases List.mem_cons.mp hx with rfl | hx
        · exact Rat.le_trans h0 hy
        · exact h2 x (List.mem_cons_of_mem _ hx)
theorem fold_max : ∀ (r : List Rat) (p : Rat), r.foldl rmax p ∈ p :: r ∧ ∀ x ∈ p :: r, x ≤ r.foldl rmax p
  | [], p => ⟨by simp, fun x hx => by simp at hx; subst hx; exact Rat.le_refl⟩
  | y :: r, p => by
    obtain ⟨h1, h2⟩ := fold_max r (rmax p y)
    have hm : rmax p y = p ∨ rmax p y = y := by unfold rmax; split <;> simp
    have hp : p ≤ rmax p y := by unfold rmax; split; exact Rat.le_of_lt (by assumption); exact Rat.le_refl
    have hy : y ≤ rmax p y := by unfold rmax; split; exact Rat.le_refl; exact Rat.not_lt.mp (by assumption)
    show List.foldl rmax (rmax p y) r ∈ _ ∧ ∀ x ∈ p :: y :: r, x ≤ List.foldl rmax (rmax p y) r
    have h0 := h2 _ List.mem_cons_self
    refine ⟨?_, fun x hx => ?_⟩
    · rcases List.mem_cons.mp h1 with e | e
      · rw [e]; rcases hm with e2 | e2 <;> rw [e2] <;> simp
      · simp [e]
    · rcases List.mem_cons.mp hx with rfl | hx
      · exact Rat.le_trans hp h0
      · rcases List.mem_cons.mp hx with rfl | hx
        · exact Rat.le_trans hy h0
        · exact h2 x (List.mem_cons_of_mem _ hx)
theorem minL_eq {ps : List Rat} {m : Rat} (h : m ∈ ps) (h2 : ∀ x ∈ ps, m ≤ x) : minL ps = m := by
  cases ps with
  | nil => cases h
  | cons p r =>
    obtain ⟨a, b⟩ := fold_min r p
    exact Rat.le_antisymm (b m h) (h2 _ a)
theorem maxR_eq {ps : List Rat} {m : Rat} (h : m ∈ ps) (h2 : ∀ x ∈ ps, x ≤ m) : maxR ps = m := by
  cases ps with
  | nil => cases h
  | cons p r =>
    obtain ⟨a, b⟩ := fold_max r p
    exact Rat.le_antisymm (h2 _ a) (b m h)
theorem minL_mem {ps : List Rat} (h : ps ≠ []) : minL ps ∈ ps ∧ ∀ x ∈ ps, minL ps ≤ x := by
  cases ps with
  | nil => exact absurd rfl h
  | cons p r => exact fold_min r p
theorem maxR_mem {ps : List Rat} (h : ps ≠ []) : maxR ps ∈ ps ∧ ∀ x ∈ ps, x ≤ maxR ps := by
  cases ps with
  | nil => exact absurd rfl h
  | cons p r => exact fold_max r p
theorem hull_congr {ps qs : List Rat} (h : ps ≠ []) (h1 : ∀ x, x ∈ ps ↔ x ∈ qs) : hullD ps = hullD qs := by
  obtain ⟨a, b⟩ := minL_mem h
  obtain ⟨c, d⟩ := maxR_mem h
  unfold hullD
  rw [minL_eq ((h1 _).mp a) (fun x hx => b x ((h1 x).mpr hx)), maxR_eq ((h1 _).mp c) (fun x hx => d x ((h1 x).mpr hx))]
/-! ### is 0 in it -/
def cInR : Ct := fun ds S Q _ => ∃ k p q x, ds = [stD p q, ratD x] ∧ k ≤ 1500 ∧ Qz k p ∧ Qz k q ∧ Qz k x ∧ Q (.bl (decide (p ≤ x ∧ x ≤ q))) S
theorem in_dec {p q x : Rat} : decide (p ≤ x ∧ x ≤ q) = (!decide (x < p) && !decide (q < x)) := by
  have h1 : (x < p) = ¬ (p ≤ x) := by rw [eq_iff_iff]; exact Rat.not_le.symm
  have h2 : (q < x) = ¬ (x ≤ q) := by rw [eq_iff_iff]; exact Rat.not_le.symm
  by_cases a : p ≤ x <;> by_cases b : x ≤ q <;> simp [a, b, h1, h2]
theorem isin_ok (ds : List D) (S : Store) (Q : D → Store → Prop) (E : QX) (h : cInR ds S Q E) : fsis_in cLessR (bodyEnds Q E) (startE Nis_in ds) S := by
  obtain ⟨k, p, q, x, rfl, hk, hp, hq, hx, h⟩ := h
  rw [in_dec] at h
  simp [fsis_in, stD, L2.atI, L2.ixN, seqS, setS, retS, retN, exprS, nilS, ifS, parS, asgS, bindT, bindTs, bindF, callC, varF, retF, consF, nilF, iteV, truF, truD, notF, andF, orF, andV, orV, notV, chF, chT, bodyEnds, startE, optF, idxF, slcF, intF, noF, newL, tyD, isiT, isiB, lenB, absB, intB, gcdB, tupB, lstB, ltG, leG, gtG, geG, isG, isnG, o2I, isO, getS, addF, subF, mulF, eqG_ii, neG_ii, neG_bb, fdivG, modG, powG, raiseS, wipeE, Nis_in]
  refine ⟨k, x, p, rfl, hk, hx, hp, ?_⟩
  by_cases c : x < p
  · simp [c, seqS, setS, retS, retN, exprS, nilS, ifS, parS, asgS, bindT, bindTs, bindF, callC, varF, retF, consF, nilF, iteV, truF, truD, notF, andF, orF, andV, orV, notV, chF, chT, bodyEnds, startE, optF, idxF, slcF, intF, noF, newL, tyD, isiT, isiB, lenB, absB, intB, gcdB, tupB, lstB, ltG, leG, gtG, geG, isG, isnG, o2I, isO, getS, addF, subF, mulF, eqG_ii, neG_ii, neG_bb, fdivG, modG, powG, raiseS, wipeE] at h ⊢
    exact h
  · simp [c, L2.atI, L2.ixN, seqS, setS, retS, retN, exprS, nilS, ifS, parS, asgS, bindT, bindTs, bindF, callC, varF, retF, consF, nilF, iteV, truF, truD, notF, andF, orF, andV, orV, notV, chF, chT, bodyEnds, startE, optF, idxF, slcF, intF, noF, newL, tyD, isiT, isiB, lenB, absB, intB, gcdB, tupB, lstB, ltG, leG, gtG, geG, isG, isnG, o2I, isO, getS, addF, subF, mulF, eqG_ii, neG_ii, neG_bb, fdivG, modG, powG, raiseS, wipeE] at h ⊢
    refine ⟨k, q, x, rfl, hk, hq, hx, ?_⟩
    by_cases c2 : q < x <;> simp [c2, seqS, setS, retS, retN, exprS, nilS, ifS, parS, asgS, bindT, bindTs, bindF, callC, varF, retF, consF, nilF, iteV, truF, truD, notF, andF, orF, andV, orV, notV, chF, chT, bodyEnds, startE, optF, idxF, slcF, intF, noF, newL, tyD, isiT, isiB, lenB, absB, intB, gcdB, tupB, lstB, ltG, leG, gtG, geG, isG, isnG, o2I, isO, getS, addF, subF, mulF, eqG_ii, neG_ii, neG_bb, fdivG, modG, powG, raiseS, wipeE] at h ⊢ <;> exact h
theorem lawin_ok (ds : List D) (S : Store) (Q : D → Store → Prop) (E : QX) (h : cInR ds S Q E) : fs_law_in cLessR (bodyEnds Q E) (startE N_law_in ds) S := by
  obtain ⟨k, p, q, x, rfl, hk, hp, hq, hx, h⟩ := h
  rw [in_dec] at h
  simp [fs_law_in, stD, L2.atI, L2.ixN, seqS, setS, retS, retN, exprS, nilS, ifS, parS, asgS, bindT, bindTs, bindF, callC, varF, retF, consF, nilF, iteV, truF, truD, notF, andF, orF, andV, orV, notV, chF, chT, bodyEnds, startE, optF, idxF, slcF, intF, noF, newL, tyD, isiT, isiB, lenB, absB, intB, gcdB, tupB, lstB, ltG, leG, gtG, geG, isG, isnG, o2I, isO, getS, addF, subF, mulF, eqG_ii, neG_ii, neG_bb, fdivG, modG, powG, raiseS, wipeE, N_law_in]
  refine ⟨k, x, p, rfl, hk, hx, hp, ?_⟩
  by_cases c : x < p
  · simp [c, seqS, setS, retS, retN, exprS, nilS, ifS, parS, asgS, bindT, bindTs, bindF, callC, varF, retF, consF, nilF, iteV, truF, truD, notF, andF, orF, andV, orV, notV, chF, chT, bodyEnds, startE, optF, idxF, slcF, intF, noF, newL, tyD, isiT, isiB, lenB, absB, intB, gcdB, tupB, lstB, ltG, leG, gtG, geG, isG, isnG, o2I, isO, getS, addF, subF, mulF, eqG_ii, neG_ii, neG_bb, fdivG, modG, powG, raiseS, wipeE] at h ⊢
    exact h
  · simp [c, L2.atI, L2.ixN, seqS, setS, retS, retN, exprS, nilS, ifS, parS, asgS, bindT, bindTs, bindF, callC, varF, retF, consF, nilF, iteV, truF, truD, notF, andF, orF, andV, orV, notV, chF, chT, bodyEnds, startE, optF, idxF, slcF, intF, noF, newL, tyD, isiT, isiB, lenB, absB, intB, gcdB, tupB, lstB, ltG, leG, gtG, geG, isG, isnG, o2I, isO, getS, addF, subF, mulF, eqG_ii, neG_ii, neG_bb, fdivG, modG, powG, raiseS, wipeE] at h ⊢
    refine ⟨k, q, x, rfl, hk, hq, hx, ?_⟩
    by_cases c2 : q < x <;> simp [c2, seqS, setS, retS, retN, exprS, nilS, ifS, parS, asgS, bindT, bindTs, bindF, callC, varF, retF, consF, nilF, iteV, truF, truD, notF, andF, orF, andV, orV, notV, chF, chT, bodyEnds, startE, optF, idxF, slcF, intF, noF, newL, tyD, isiT, isiB, lenB, absB, intB, gcdB, tupB, lstB, ltG, leG, gtG, geG, isG, isnG, o2I, isO, getS, addF, subF, mulF, eqG_ii, neG_ii, neG_bb, fdivG, modG, powG, raiseS, wipeE] at h ⊢ <;> exact h
end LawX

set_option Elab.async false
set_option linter.all false
set_option maxRecDepth 100000
set_option maxHeartbeats 0
set_option exponentiation.threshold 5000
namespace LawX
open PySem PySem.Spec PyProof.Rows L2 Dx
/-! ### hulls -/
def cHullR : Ct := fun ds S Q _ => ∃ k ps, ds = [.lst (ps.map ratD)] ∧ ps ≠ [] ∧ ps.length ≤ 1000 ∧ k ≤ 1500 ∧ (∀ x ∈ ps, Qz k x) ∧ Q (hullD ps) S
theorem take_fold {f : Rat → Rat → Rat} {ps : List Rat} {p q : Rat} {j : Nat} (h : ps[j]? = some q) : (ps.take (j + 1)).foldl f p = f ((ps.take j).foldl f p) q := by
  rw [List.take_add_one, h, List.foldl_append]
  rfl
theorem fold_min_z {k : Nat} {ps : List Rat} {p : Rat} {j : Nat} (hp : Qz k p) (h : ∀ x ∈ ps, Qz k x) : Qz k ((ps.take j).foldl rmin p) := by
  rcases List.mem_cons.mp (fold_min (ps.take j) p).1 with e | e
  · rw [e]; exact hp
  · exact h _ (List.mem_of_mem_take e)
theorem fold_max_z {k : Nat} {ps : List Rat} {p : Rat} {j : Nat} (hp : Qz k p) (h : ∀ x ∈ ps, Qz k x) : Qz k ((ps.take j).foldl rmax p) := by
  rcases List.mem_cons.mp (fold_max (ps.take j) p).1 with e | e
  · rw [e]; exact hp
  · exact h _ (List.mem_of_mem_take e)
theorem hull_ok (ds : List D) (S : Store) (Q : D → Store → Prop) (E : QX) (h : cHullR ds S Q E) : fshull cMaxR cMinR (bodyEnds Q E) (startE Nhull ds) S := by
  obtain ⟨k, ps, rfl, hne, hl, hk, hz, h⟩ := h
  have hs := sizeLine_eq
  cases ps with
  | nil => exact absurd rfl hne
  | cons p r =>
    have hp := hz p List.mem_cons_self
    have hr : ∀ x ∈ r, Qz k x := fun x hx => hz x (List.mem_cons_of_mem _ hx)
    have hcut : Dx.cutD (ratD p :: r.map ratD) (some 1) none = r.map ratD := by rw [cut_from (by omega)]; rfl
    simp only [List.map_cons]
    simp [fshull, seqS, setS, retS, retN, exprS, nilS, ifS, parS, asgS, bindT, bindTs, bindF, callC, varF, retF, consF, nilF, iteV, truF, truD, notF, andF, orF, andV, orV, notV, chF, chT, bodyEnds, startE, optF, idxF, slcF, intF, noF, newL, tyD, isiT, isiB, lenB, absB, intB, gcdB, tupB, lstB, ltG, leG, gtG, geG, isG, isnG, o2I, isO, getS, addF, subF, mulF, eqG_ii, neG_ii, neG_bb, fdivG, modG, powG, raiseS, wipeE, Nhull, L2.atI, L2.ixN, forS, itE, itsF]
    rw [hcut]
    refine forL_inv (I := fun i τ S' => S' = S ∧ ∃ y, τ = [some (.lst (ratD p :: r.map ratD)), some (ratD ((r.take i).foldl rmin p)), some (ratD ((r.take i).foldl rmax p)), y]) _ 0 ⟨rfl, _, rfl⟩ ?_ ?_
    · rintro j d hd τ S' K ⟨rfl, y, rfl⟩ hK
      rw [List.getElem?_map] at hd
      obtain ⟨q, hq, rfl⟩ := Option.map_eq_some_iff.mp hd
      have qz := hr q (List.mem_of_getElem? hq)
      refine ⟨by simp [seqS, setS, retS, retN, exprS, nilS, ifS, parS, asgS, bindT, bindTs, bindF, callC, varF, retF, consF, nilF, iteV, truF, truD, notF, andF, orF, andV, orV, notV, chF, chT, bodyEnds, startE, optF, idxF, slcF, intF, noF, newL, tyD, isiT, isiB, lenB, absB, intB, gcdB, tupB, lstB, ltG, leG, gtG, geG, isG, isnG, o2I, isO, getS, addF, subF, mulF, eqG_ii, neG_ii, neG_bb, fdivG, modG, powG, raiseS, wipeE], _, rfl, ?_⟩
      simp only [Nat.zero_add] at hK ⊢
      simp [seqS, setS, retS, retN, exprS, nilS, ifS, parS, asgS, bindT, bindTs, bindF, callC, varF, retF, consF, nilF, iteV, truF, truD, notF, andF, orF, andV, orV, notV, chF, chT, bodyEnds, startE, optF, idxF, slcF, intF, noF, newL, tyD, isiT, isiB, lenB, absB, intB, gcdB, tupB, lstB, ltG, leG, gtG, geG, isG, isnG, o2I, isO, getS, addF, subF, mulF, eqG_ii, neG_ii, neG_bb, fdivG, modG, powG, raiseS, wipeE]
      refine ⟨k, _, q, rfl, hk, fold_min_z hp hr, qz, k, _, q, rfl, hk, fold_max_z hp hr, qz, ?_⟩
      exact hK _ _ ⟨rfl, some (ratD q), by rw [take_fold hq, take_fold hq]⟩
    · rintro τ S' ⟨rfl, y, rfl⟩
      refine ⟨by simp [seqS, setS, retS, retN, exprS, nilS, ifS, parS, asgS, bindT, bindTs, bindF, callC, varF, retF, consF, nilF, iteV, truF, truD, notF, andF, orF, andV, orV, notV, chF, chT, bodyEnds, startE, optF, idxF, slcF, intF, noF, newL, tyD, isiT, isiB, lenB, absB, intB, gcdB, tupB, lstB, ltG, leG, gtG, geG, isG, isnG, o2I, isO, getS, addF, subF, mulF, eqG_ii, neG_ii, neG_bb, fdivG, modG, powG, raiseS, wipeE], ?_⟩
      simp [seqS, setS, retS, retN, exprS, nilS, ifS, parS, asgS, bindT, bindTs, bindF, callC, varF, retF, consF, nilF, iteV, truF, truD, notF, andF, orF, andV, orV, notV, chF, chT, bodyEnds, startE, optF, idxF, slcF, intF, noF, newL, tyD, isiT, isiB, lenB, absB, intB, gcdB, tupB, lstB, ltG, leG, gtG, geG, isG, isnG, o2I, isO, getS, addF, subF, mulF, eqG_ii, neG_ii, neG_bb, fdivG, modG, powG, raiseS, wipeE]
      refine ⟨by rw [hs]; decide, ?_⟩
      exact h
theorem rmin_self (p : Rat) : rmin p p = p := by unfold rmin; split <;> rfl
theorem rmax_self (p : Rat) : rmax p p = p := by unfold rmax; split <;> rfl
theorem lhull_ok (ds : List D) (S : Store) (Q : D → Store → Prop) (E : QX) (h : cHullR ds S Q E) : fs_law_hull cLessR (bodyEnds Q E) (startE N_law_hull ds) S := by
  obtain ⟨k, ps, rfl, hne, hl, hk, hz, h⟩ := h
  have hs := sizeLine_eq
  cases ps with
  | nil => exact absurd rfl hne
  | cons p r =>
    have hp := hz p List.mem_cons_self
    simp only [List.map_cons]
    simp [fs_law_hull, seqS, setS, retS, retN, exprS, nilS, ifS, parS, asgS, bindT, bindTs, bindF, callC, varF, retF, consF, nilF, iteV, truF, truD, notF, andF, orF, andV, orV, notV, chF, chT, bodyEnds, startE, optF, idxF, slcF, intF, noF, newL, tyD, isiT, isiB, lenB, absB, intB, gcdB, tupB, lstB, ltG, leG, gtG, geG, isG, isnG, o2I, isO, getS, addF, subF, mulF, eqG_ii, neG_ii, neG_bb, fdivG, modG, powG, raiseS, wipeE, N_law_hull, L2.atI, L2.ixN, forS, itE, itsF]
    rw [show ratD p :: r.map ratD = (p :: r).map ratD from rfl]
    refine forL_inv (I := fun i τ S' => S' = S ∧ ∃ y, τ = [some (.lst ((p :: r).map ratD)), some (ratD (((p :: r).take i).foldl rmin p)), some (ratD (((p :: r).take i).foldl rmax p)), y]) _ 0 ⟨rfl, _, rfl⟩ ?_ ?_
    · rintro j d hd τ S' K ⟨rfl, y, rfl⟩ hK
      rw [List.getElem?_map] at hd
      obtain ⟨q, hq, rfl⟩ := Option.map_eq_some_iff.mp hd
      have qz := hz q (List.mem_of_getElem? hq)
      refine ⟨by simp [seqS, setS, retS, retN, exprS, nilS, ifS, parS, asgS, bindT, bindTs, bindF, callC, varF, retF, consF, nilF, iteV, truF, truD, notF, andF, orF, andV, orV, notV, chF, chT, bodyEnds, startE, optF, idxF, slcF, intF, noF, newL, tyD, isiT, isiB, lenB, absB, intB, gcdB, tupB, lstB, ltG, leG, gtG, geG, isG, isnG, o2I, isO, getS, addF, subF, mulF, eqG_ii, neG_ii, neG_bb, fdivG, modG, powG, raiseS, wipeE], _, rfl, ?_⟩
      simp only [Nat.zero_add] at hK ⊢
      have z1 : Qz k (((p :: r).take j).foldl rmin p) := fold_min_z hp hz
      have z2 : Qz k (((p :: r).take j).foldl rmax p) := fold_max_z hp hz
      have hK2 := hK [some (.lst ((p :: r).map ratD)), some (ratD (rmin (((p :: r).take j).foldl rmin p) q)), some (ratD (rmax (((p :: r).take j).foldl rmax p) q)), some (ratD q)] S' ⟨rfl, _, by rw [take_fold hq, take_fold hq]⟩
      generalize ((p :: r).take j).foldl rmin p = lo at z1 hK2 ⊢
      generalize ((p :: r).take j).foldl rmax p = hi at z2 hK2 ⊢
      generalize (p :: r).map ratD = L at hK2 ⊢
      unfold rmin rmax at hK2
      simp [seqS, setS, retS, retN, exprS, nilS, ifS, parS, asgS, bindT, bindTs, bindF, callC, varF, retF, consF, nilF, iteV, truF, truD, notF, andF, orF, andV, orV, notV, chF, chT, bodyEnds, startE, optF, idxF, slcF, intF, noF, newL, tyD, isiT, isiB, lenB, absB, intB, gcdB, tupB, lstB, ltG, leG, gtG, geG, isG, isnG, o2I, isO, getS, addF, subF, mulF, eqG_ii, neG_ii, neG_bb, fdivG, modG, powG, raiseS, wipeE]
      refine ⟨k, q, lo, rfl, hk, qz, z1, ?_⟩
      by_cases c1 : q < lo
      · simp [seqS, setS, retS, retN, exprS, nilS, ifS, parS, asgS, bindT, bindTs, bindF, callC, varF, retF, consF, nilF, iteV, truF, truD, notF, andF, orF, andV, orV, notV, chF, chT, bodyEnds, startE, optF, idxF, slcF, intF, noF, newL, tyD, isiT, isiB, lenB, absB, intB, gcdB, tupB, lstB, ltG, leG, gtG, geG, isG, isnG, o2I, isO, getS, addF, subF, mulF, eqG_ii, neG_ii, neG_bb, fdivG, modG, powG, raiseS, wipeE, c1] at hK2 ⊢
        refine ⟨k, hi, q, rfl, hk, z2, qz, ?_⟩
        by_cases c2 : hi < q <;> simp [seqS, setS, retS, retN, exprS, nilS, ifS, parS, asgS, bindT, bindTs, bindF, callC, varF, retF, consF, nilF, iteV, truF, truD, notF, andF, orF, andV, orV, notV, chF, chT, bodyEnds, startE, optF, idxF, slcF, intF, noF, newL, tyD, isiT, isiB, lenB, absB, intB, gcdB, tupB, lstB, ltG, leG, gtG, geG, isG, isnG, o2I, isO, getS, addF, subF, mulF, eqG_ii, neG_ii, neG_bb, fdivG, modG, powG, raiseS, wipeE, c2] at hK2 ⊢ <;> exact hK2
      · simp [seqS, setS, retS, retN, exprS, nilS, ifS, parS, asgS, bindT, bindTs, bindF, callC, varF, retF, consF, nilF, iteV, truF, truD, notF, andF, orF, andV, orV, notV, chF, chT, bodyEnds, startE, optF, idxF, slcF, intF, noF, newL, tyD, isiT, isiB, lenB, absB, intB, gcdB, tupB, lstB, ltG, leG, gtG, geG, isG, isnG, o2I, isO, getS, addF, subF, mulF, eqG_ii, neG_ii, neG_bb, fdivG, modG, powG, raiseS, wipeE, c1] at hK2 ⊢
        refine ⟨k, hi, q, rfl, hk, z2, qz, ?_⟩
        by_cases c2 : hi < q <;> simp [seqS, setS, retS, retN, exprS, nilS, ifS, parS, asgS, bindT, bindTs, bindF, callC, varF, retF, consF, nilF, iteV, truF, truD, notF, andF, orF, andV, orV, notV, chF, chT, bodyEnds, startE, optF, idxF, slcF, intF, noF, newL, tyD, isiT, isiB, lenB, absB, intB, gcdB, tupB, lstB, ltG, leG, gtG, geG, isG, isnG, o2I, isO, getS, addF, subF, mulF, eqG_ii, neG_ii, neG_bb, fdivG, modG, powG, raiseS, wipeE, c2] at hK2 ⊢ <;> exact hK2
    · rintro τ S' ⟨rfl, y, rfl⟩
      refine ⟨by simp [seqS, setS, retS, retN, exprS, nilS, ifS, parS, asgS, bindT, bindTs, bindF, callC, varF, retF, consF, nilF, iteV, truF, truD, notF, andF, orF, andV, orV, notV, chF, chT, bodyEnds, startE, optF, idxF, slcF, intF, noF, newL, tyD, isiT, isiB, lenB, absB, intB, gcdB, tupB, lstB, ltG, leG, gtG, geG, isG, isnG, o2I, isO, getS, addF, subF, mulF, eqG_ii, neG_ii, neG_bb, fdivG, modG, powG, raiseS, wipeE], ?_⟩
      simp only [Nat.zero_add]
      have e : List.take ((p :: r).map ratD).length (p :: r) = p :: r := List.take_of_length_le (by simp)
      rw [e]
      simp only [List.foldl_cons, rmin_self, rmax_self]
      simp [seqS, setS, retS, retN, exprS, nilS, ifS, parS, asgS, bindT, bindTs, bindF, callC, varF, retF, consF, nilF, iteV, truF, truD, notF, andF, orF, andV, orV, notV, chF, chT, bodyEnds, startE, optF, idxF, slcF, intF, noF, newL, tyD, isiT, isiB, lenB, absB, intB, gcdB, tupB, lstB, ltG, leG, gtG, geG, isG, isnG, o2I, isO, getS, addF, subF, mulF, eqG_ii, neG_ii, neG_bb, fdivG, modG, powG, raiseS, wipeE]
      exact ⟨by rw [hs]; decide, h⟩
end LawX

set_option Elab.async false
set_option linter.all false
set_option maxRecDepth 100000
set_option maxHeartbeats 0
set_option exponentiation.threshold 5000
namespace LawX
open PySem PySem.Spec PyProof.Rows L2 Dx
/-! ### sums, differences, .. of stretches -/
def sumF (p q r s : Rat) : D := stD (p + r) (q + s)
def difF (p q r s : Rat) : D := stD (p + -s) (q + -r)
def proL (p q r s : Rat) : List Rat := [p * r, p * s, q * r, q * s]
def proF (p q r s : Rat) : D := hullD (proL p q r s)
def quoF (p q r s : Rat) : D := if r ≤ 0 ∧ 0 ≤ s then .non else hullD (proL p q s⁻¹ r⁻¹)
def leaF (p q r s : Rat) : D := stD (rmin p r) (rmin q s)
def mosF (p q r s : Rat) : D := stD (rmax p r) (rmax q s)
def cBy2 (f : Rat → Rat → Rat → Rat → D) : Ct := fun ds S Q _ => ∃ k p q r s, ds = [stD p q, stD r s] ∧ k ≤ 700 ∧ Qz k p ∧ Qz k q ∧ Qz k r ∧ Qz k s ∧ p ≤ q ∧ r ≤ s ∧ Q (f p q r s) S
def cTwo (f : Rat → Rat → Rat → Rat → D) : Ct := fun ds S Q E => ∃ v u l, ds = [v, u] ∧ okD l v = true ∧ okD l u = true ∧ (isStr v = false → E ⟨"InvalidStretch", []⟩ S) ∧ (isStr v = true → isStr u = false → E ⟨"InvalidStretch", []⟩ S) ∧
  (isStr v = true → isStr u = true → ∃ k p q r s, v = stD p q ∧ u = stD r s ∧ k ≤ 700 ∧ Qz k p ∧ Qz k q ∧ Qz k r ∧ Qz k s ∧ p ≤ q ∧ r ≤ s ∧ Q (f p q r s) S)
theorem sumby_ok (ds : List D) (S : Store) (Q : D → Store → Prop) (E : QX) (h : cBy2 sumF ds S Q E) : fssum_by cPlusR (bodyEnds Q E) (startE Nsum_by ds) S := by
  obtain ⟨k, p, q, r, s, rfl, hk, hp, hq, hr, hss, h4, h5, h⟩ := h
  have hs := sizeLine_eq
  simp [fssum_by, seqS, setS, retS, retN, exprS, nilS, ifS, parS, asgS, bindT, bindTs, bindF, callC, varF, retF, consF, nilF, iteV, truF, truD, notF, andF, orF, andV, orV, notV, chF, chT, bodyEnds, startE, optF, idxF, slcF, intF, noF, newL, tyD, isiT, isiB, lenB, absB, intB, gcdB, tupB, lstB, ltG, leG, gtG, geG, isG, isnG, o2I, isO, getS, addF, subF, mulF, eqG_ii, neG_ii, neG_bb, fdivG, modG, powG, raiseS, wipeE, Nsum_by, stD, L2.atI, L2.ixN]
  exact ⟨k, p, r, rfl, by omega, hp, hr, k, q, s, rfl, by omega, hq, hss, by rw [hs]; decide, h⟩
theorem difby_ok (ds : List D) (S : Store) (Q : D → Store → Prop) (E : QX) (h : cBy2 difF ds S Q E) : fsdifference_by cSubR (bodyEnds Q E) (startE Ndifference_by ds) S := by
  obtain ⟨k, p, q, r, s, rfl, hk, hp, hq, hr, hss, h4, h5, h⟩ := h
  have hs := sizeLine_eq
  simp [fsdifference_by, seqS, setS, retS, retN, exprS, nilS, ifS, parS, asgS, bindT, bindTs, bindF, callC, varF, retF, consF, nilF, iteV, truF, truD, notF, andF, orF, andV, orV, notV, chF, chT, bodyEnds, startE, optF, idxF, slcF, intF, noF, newL, tyD, isiT, isiB, lenB, absB, intB, gcdB, tupB, lstB, ltG, leG, gtG, geG, isG, isnG, o2I, isO, getS, addF, subF, mulF, eqG_ii, neG_ii, neG_bb, fdivG, modG, powG, raiseS, wipeE, Ndifference_by, stD, L2.atI, L2.ixN]
  exact ⟨k, p, s, rfl, by omega, hp, hss, k, q, r, rfl, by omega, hq, hr, by rw [hs]; decide, h⟩
theorem leaby_ok (ds : List D) (S : Store) (Q : D → Store → Prop) (E : QX) (h : cBy2 leaF ds S Q E) : fsleast_by cMinR (bodyEnds Q E) (startE Nleast_by ds) S := by
  obtain ⟨k, p, q, r, s, rfl, hk, hp, hq, hr, hss, h4, h5, h⟩ := h
  have hs := sizeLine_eq
  simp [fsleast_by, seqS, setS, retS, retN, exprS, nilS, ifS, parS, asgS, bindT, bindTs, bindF, callC, varF, retF, consF, nilF, iteV, truF, truD, notF, andF, orF, andV, orV, notV, chF, chT, bodyEnds, startE, optF, idxF, slcF, intF, noF, newL, tyD, isiT, isiB, lenB, absB, intB, gcdB, tupB, lstB, ltG, leG, gtG, geG, isG, isnG, o2I, isO, getS, addF, subF, mulF, eqG_ii, neG_ii, neG_bb, fdivG, modG, powG, raiseS, wipeE, Nleast_by, stD, L2.atI, L2.ixN]
  exact ⟨k, p, r, rfl, by omega, hp, hr, k, q, s, rfl, by omega, hq, hss, by rw [hs]; decide, h⟩
theorem mosby_ok (ds : List D) (S : Store) (Q : D → Store → Prop) (E : QX) (h : cBy2 mosF ds S Q E) : fsmost_by cMaxR (bodyEnds Q E) (startE Nmost_by ds) S := by
  obtain ⟨k, p, q, r, s, rfl, hk, hp, hq, hr, hss, h4, h5, h⟩ := h
  have hs := sizeLine_eq
  simp [fsmost_by, seqS, setS, retS, retN, exprS, nilS, ifS, parS, asgS, bindT, bindTs, bindF, callC, varF, retF, consF, nilF, iteV, truF, truD, notF, andF, orF, andV, orV, notV, chF, chT, bodyEnds, startE, optF, idxF, slcF, intF, noF, newL, tyD, isiT, isiB, lenB, absB, intB, gcdB, tupB, lstB, ltG, leG, gtG, geG, isG, isnG, o2I, isO, getS, addF, subF, mulF, eqG_ii, neG_ii, neG_bb, fdivG, modG, powG, raiseS, wipeE, Nmost_by, stD, L2.atI, L2.ixN]
  exact ⟨k, p, r, rfl, by omega, hp, hr, k, q, s, rfl, by omega, hq, hss, by rw [hs]; decide, h⟩
/-- products: no order is asked -/
def cPro : Ct := fun ds S Q _ => ∃ k p q r s, ds = [stD p q, stD r s] ∧ k ≤ 700 ∧ Qz k p ∧ Qz k q ∧ Qz k r ∧ Qz k s ∧ Q (proF p q r s) S
theorem pro_z {k : Nat} {p q r s : Rat} (hp : Qz k p) (hq : Qz k q) (hr : Qz k r) (hss : Qz k s) : ∀ x ∈ proL p q r s, Qz (k + k) x := fun x hx => by
  simp only [proL, List.mem_cons, List.not_mem_nil, or_false] at hx
  rcases hx with rfl | rfl | rfl | rfl
  · exact hp.mul hr
  · exact hp.mul hss
  · exact hq.mul hr
  · exact hq.mul hss
theorem proby_ok (ds : List D) (S : Store) (Q : D → Store → Prop) (E : QX) (h : cPro ds S Q E) : fsproduct_by cHullR cTimesR (bodyEnds Q E) (startE Nproduct_by ds) S := by
  obtain ⟨k, p, q, r, s, rfl, hk, hp, hq, hr, hss, h⟩ := h
  have hs := sizeLine_eq
  have z : ∀ n : Nat, n ≤ 100 → n < sizeLine := fun n h => by omega
  simp [fsproduct_by, seqS, setS, retS, retN, exprS, nilS, ifS, parS, asgS, bindT, bindTs, bindF, callC, varF, retF, consF, nilF, iteV, truF, truD, notF, andF, orF, andV, orV, notV, chF, chT, bodyEnds, startE, optF, idxF, slcF, intF, noF, newL, tyD, isiT, isiB, lenB, absB, intB, gcdB, tupB, lstB, ltG, leG, gtG, geG, isG, isnG, o2I, isO, getS, addF, subF, mulF, eqG_ii, neG_ii, neG_bb, fdivG, modG, powG, raiseS, wipeE, Nproduct_by, stD, comp2F, comp2L, compL, itE, itsF, z]
  refine ⟨k, p, r, rfl, by omega, hp, hr, k, p, s, rfl, by omega, hp, hss, k, q, r, rfl, by omega, hq, hr, k, q, s, rfl, by omega, hq, hss, ?_⟩
  exact ⟨k + k, proL p q r s, rfl, by simp [proL], by simp [proL], by omega, pro_z hp hq hr hss, h⟩
theorem pro_imp {ds : List D} {S : Store} {Q : D → Store → Prop} {E : QX} (h : cBy2 proF ds S Q E) : cPro ds S Q E := by
  obtain ⟨k, p, q, r, s, rfl, hk, hp, hq, hr, hss, h4, h5, h⟩ := h
  exact ⟨k, p, q, r, s, rfl, hk, hp, hq, hr, hss, h⟩
theorem zero_eq : D.tup [.int 0, .int 1] = ratD 0 := by kernel_rfl
theorem zero_z : Qz 1 0 := Fz.q (a := 0) (b := 1) ⟨by decide, by decide, by decide⟩
theorem one_eq : D.tup [.int 1, .int 1] = ratD 1 := by kernel_rfl
theorem one_z : Qz 1 1 := Fz.q (a := 1) (b := 1) ⟨by decide, by decide, by decide⟩
theorem quoby_ok (ds : List D) (S : Store) (Q : D → Store → Prop) (E : QX) (h : cBy2 quoF ds S Q E) : fsquotient_by cInR cPro cInvR (bodyEnds Q E) (startE Nquotient_by ds) S := by
  obtain ⟨k, p, q, r, s, rfl, hk, hp, hq, hr, hss, h4, h5, h⟩ := h
  have hs := sizeLine_eq
  simp [fsquotient_by, seqS, setS, retS, retN, exprS, nilS, ifS, parS, asgS, bindT, bindTs, bindF, callC, varF, retF, consF, nilF, iteV, truF, truD, notF, andF, orF, andV, orV, notV, chF, chT, bodyEnds, startE, optF, idxF, slcF, intF, noF, newL, tyD, isiT, isiB, lenB, absB, intB, gcdB, tupB, lstB, ltG, leG, gtG, geG, isG, isnG, o2I, isO, getS, addF, subF, mulF, eqG_ii, neG_ii, neG_bb, fdivG, modG, powG, raiseS, wipeE, Nquotient_by, zero_eq]
  refine ⟨k + 1, r, s, 0, rfl, by omega, hr.mono (by omega), hss.mono (by omega), zero_z.mono (by omega), ?_⟩
  unfold quoF at h
  by_cases c : r ≤ 0 ∧ 0 ≤ s
  · rw [if_pos c] at h
    simp [c, seqS, setS, retS, retN, exprS, nilS, ifS, parS, asgS, bindT, bindTs, bindF, callC, varF, retF, consF, nilF, iteV, truF, truD, notF, andF, orF, andV, orV, notV, chF, chT, bodyEnds, startE, optF, idxF, slcF, intF, noF, newL, tyD, isiT, isiB, lenB, absB, intB, gcdB, tupB, lstB, ltG, leG, gtG, geG, isG, isnG, o2I, isO, getS, addF, subF, mulF, eqG_ii, neG_ii, neG_bb, fdivG, modG, powG, raiseS, wipeE]
    exact h
  · rw [if_neg c] at h
    have r0 : r ≠ 0 := fun e => c ⟨by rw [e]; exact Rat.le_refl, by rw [← e]; exact h5⟩
    have s0 : s ≠ 0 := fun e => c ⟨by rw [← e]; exact h5, by rw [e]; exact Rat.le_refl⟩
    simp [c, seqS, setS, retS, retN, exprS, nilS, ifS, parS, asgS, bindT, bindTs, bindF, callC, varF, retF, consF, nilF, iteV, truF, truD, notF, andF, orF, andV, orV, notV, chF, chT, bodyEnds, startE, optF, idxF, slcF, intF, noF, newL, tyD, isiT, isiB, lenB, absB, intB, gcdB, tupB, lstB, ltG, leG, gtG, geG, isG, isnG, o2I, isO, getS, addF, subF, mulF, eqG_ii, neG_ii, neG_bb, fdivG, modG, powG, raiseS, wipeE, stD, L2.atI, L2.ixN]
    refine ⟨k, s, rfl, by omega, hss, s0, k, r, rfl, by omega, hr, r0, by rw [hs]; decide, ?_⟩
    exact ⟨k, p, q, s⁻¹, r⁻¹, rfl, hk, hp, hq, hss.inv s0, hr.inv r0, h⟩
theorem sum_of_ok (ds : List D) (S : Store) (Q : D → Store → Prop) (E : QX) (h : cTwo sumF ds S Q E) : fssum_of cNeedTwo (cBy2 sumF) (bodyEnds Q E) (startE Nsum_of ds) S := by
  obtain ⟨v, u, l, rfl, hv, hu, h1, h2, h3⟩ := h
  simp [fssum_of, seqS, setS, retS, retN, exprS, nilS, ifS, parS, asgS, bindT, bindTs, bindF, callC, varF, retF, consF, nilF, iteV, truF, truD, notF, andF, orF, andV, orV, notV, chF, chT, bodyEnds, startE, optF, idxF, slcF, intF, noF, newL, tyD, isiT, isiB, lenB, absB, intB, gcdB, tupB, lstB, ltG, leG, gtG, geG, isG, isnG, o2I, isO, getS, addF, subF, mulF, eqG_ii, neG_ii, neG_bb, fdivG, modG, powG, raiseS, wipeE, Nsum_of]
  refine ⟨v, u, l, rfl, hv, hu, h1, h2, fun a b => ?_⟩
  obtain ⟨k, p, q, r, s, rfl, rfl, hk, hp, hq, hr, hss, h4, h5, h⟩ := h3 a b
  exact ⟨k, p, q, r, s, rfl, hk, hp, hq, hr, hss, h4, h5, h⟩
theorem difference_of_ok (ds : List D) (S : Store) (Q : D → Store → Prop) (E : QX) (h : cTwo difF ds S Q E) : fsdifference_of cNeedTwo (cBy2 difF) (bodyEnds Q E) (startE Ndifference_of ds) S := by
  obtain ⟨v, u, l, rfl, hv, hu, h1, h2, h3⟩ := h
  simp [fsdifference_of, seqS, setS, retS, retN, exprS, nilS, ifS, parS, asgS, bindT, bindTs, bindF, callC, varF, retF, consF, nilF, iteV, truF, truD, notF, andF, orF, andV, orV, notV, chF, chT, bodyEnds, startE, optF, idxF, slcF, intF, noF, newL, tyD, isiT, isiB, lenB, absB, intB, gcdB, tupB, lstB, ltG, leG, gtG, geG, isG, isnG, o2I, isO, getS, addF, subF, mulF, eqG_ii, neG_ii, neG_bb, fdivG, modG, powG, raiseS, wipeE, Ndifference_of]
  refine ⟨v, u, l, rfl, hv, hu, h1, h2, fun a b => ?_⟩
  obtain ⟨k, p, q, r, s, rfl, rfl, hk, hp, hq, hr, hss, h4, h5, h⟩ := h3 a b
  exact ⟨k, p, q, r, s, rfl, hk, hp, hq, hr, hss, h4, h5, h⟩
theorem product_of_ok (ds : List D) (S : Store) (Q : D → Store → Prop) (E : QX) (h : cTwo proF ds S Q E) : fsproduct_of cNeedTwo cPro (bodyEnds Q E) (startE Nproduct_of ds) S := by
  obtain ⟨v, u, l, rfl, hv, hu, h1, h2, h3⟩ := h
  simp [fsproduct_of, seqS, setS, retS, retN, exprS, nilS, ifS, parS, asgS, bindT, bindTs, bindF, callC, varF, retF, consF, nilF, iteV, truF, truD, notF, andF, orF, andV, orV, notV, chF, chT, bodyEnds, startE, optF, idxF, slcF, intF, noF, newL, tyD, isiT, isiB, lenB, absB, intB, gcdB, tupB, lstB, ltG, leG, gtG, geG, isG, isnG, o2I, isO, getS, addF, subF, mulF, eqG_ii, neG_ii, neG_bb, fdivG, modG, powG, raiseS, wipeE, Nproduct_of]
  refine ⟨v, u, l, rfl, hv, hu, h1, h2, fun a b => ?_⟩
  obtain ⟨k, p, q, r, s, rfl, rfl, hk, hp, hq, hr, hss, h4, h5, h⟩ := h3 a b
  exact ⟨k, p, q, r, s, rfl, hk, hp, hq, hr, hss, h⟩
theorem quotient_of_ok (ds : List D) (S : Store) (Q : D → Store → Prop) (E : QX) (h : cTwo quoF ds S Q E) : fsquotient_of cNeedTwo (cBy2 quoF) (bodyEnds Q E) (startE Nquotient_of ds) S := by
  obtain ⟨v, u, l, rfl, hv, hu, h1, h2, h3⟩ := h
  simp [fsquotient_of, seqS, setS, retS, retN, exprS, nilS, ifS, parS, asgS, bindT, bindTs, bindF, callC, varF, retF, consF, nilF, iteV, truF, truD, notF, andF, orF, andV, orV, notV, chF, chT, bodyEnds, startE, optF, idxF, slcF, intF, noF, newL, tyD, isiT, isiB, lenB, absB, intB, gcdB, tupB, lstB, ltG, leG, gtG, geG, isG, isnG, o2I, isO, getS, addF, subF, mulF, eqG_ii, neG_ii, neG_bb, fdivG, modG, powG, raiseS, wipeE, Nquotient_of]
  refine ⟨v, u, l, rfl, hv, hu, h1, h2, fun a b => ?_⟩
  obtain ⟨k, p, q, r, s, rfl, rfl, hk, hp, hq, hr, hss, h4, h5, h⟩ := h3 a b
  exact ⟨k, p, q, r, s, rfl, hk, hp, hq, hr, hss, h4, h5, h⟩
theorem least_of_ok (ds : List D) (S : Store) (Q : D → Store → Prop) (E : QX) (h : cTwo leaF ds S Q E) : fsleast_of cNeedTwo (cBy2 leaF) (bodyEnds Q E) (startE Nleast_of ds) S := by
  obtain ⟨v, u, l, rfl, hv, hu, h1, h2, h3⟩ := h
  simp [fsleast_of, seqS, setS, retS, retN, exprS, nilS, ifS, parS, asgS, bindT, bindTs, bindF, callC, varF, retF, consF, nilF, iteV, truF, truD, notF, andF, orF, andV, orV, notV, chF, chT, bodyEnds, startE, optF, idxF, slcF, intF, noF, newL, tyD, isiT, isiB, lenB, absB, intB, gcdB, tupB, lstB, ltG, leG, gtG, geG, isG, isnG, o2I, isO, getS, addF, subF, mulF, eqG_ii, neG_ii, neG_bb, fdivG, modG, powG, raiseS, wipeE, Nleast_of]
  refine ⟨v, u, l, rfl, hv, hu, h1, h2, fun a b => ?_⟩
  obtain ⟨k, p, q, r, s, rfl, rfl, hk, hp, hq, hr, hss, h4, h5, h⟩ := h3 a b
  exact ⟨k, p, q, r, s, rfl, hk, hp, hq, hr, hss, h4, h5, h⟩
theorem most_of_ok (ds : List D) (S : Store) (Q : D → Store → Prop) (E : QX) (h : cTwo mosF ds S Q E) : fsmost_of cNeedTwo (cBy2 mosF) (bodyEnds Q E) (startE Nmost_of ds) S := by
  obtain ⟨v, u, l, rfl, hv, hu, h1, h2, h3⟩ := h
  simp [fsmost_of, seqS, setS, retS, retN, exprS, nilS, ifS, parS, asgS, bindT, bindTs, bindF, callC, varF, retF, consF, nilF, iteV, truF, truD, notF, andF, orF, andV, orV, notV, chF, chT, bodyEnds, startE, optF, idxF, slcF, intF, noF, newL, tyD, isiT, isiB, lenB, absB, intB, gcdB, tupB, lstB, ltG, leG, gtG, geG, isG, isnG, o2I, isO, getS, addF, subF, mulF, eqG_ii, neG_ii, neG_bb, fdivG, modG, powG, raiseS, wipeE, Nmost_of]
  refine ⟨v, u, l, rfl, hv, hu, h1, h2, fun a b => ?_⟩
  obtain ⟨k, p, q, r, s, rfl, rfl, hk, hp, hq, hr, hss, h4, h5, h⟩ := h3 a b
  exact ⟨k, p, q, r, s, rfl, hk, hp, hq, hr, hss, h4, h5, h⟩
end LawX

set_option Elab.async false
set_option linter.all false
set_option maxRecDepth 100000
set_option maxHeartbeats 0
set_option exponentiation.threshold 5000
namespace LawX
open PySem PySem.Spec PyProof.Rows L2 Dx
/-! ### minus, amounts, powers -/
def cBy1 (f : Rat → Rat → D) : Ct := fun ds S Q _ => ∃ k p q, ds = [stD p q] ∧ k ≤ 1400 ∧ Qz k p ∧ Qz k q ∧ p ≤ q ∧ Q (f p q) S
def cOne (f : Rat → Rat → D) : Ct := fun ds S Q E => ∃ v l, ds = [v] ∧ okD l v = true ∧ (isStr v = false → E ⟨"InvalidStretch", []⟩ S) ∧ (isStr v = true → ∃ k p q, v = stD p q ∧ k ≤ 1400 ∧ Qz k p ∧ Qz k q ∧ p ≤ q ∧ Q (f p q) S)
def minF (p q : Rat) : D := stD (-q) (-p)
def amoP (p q : Rat) : Rat × Rat := if 0 < p then (p, q) else if q < 0 then (-q, -p) else (0, rmax (-p) q)
def amoF (p q : Rat) : D := stD (amoP p q).1 (amoP p q).2
theorem minby_ok (ds : List D) (S : Store) (Q : D → Store → Prop) (E : QX) (h : cBy1 minF ds S Q E) : fsminus_by cMinusR (bodyEnds Q E) (startE Nminus_by ds) S := by
  obtain ⟨k, p, q, rfl, hk, hp, hq, h4, h⟩ := h
  have hs := sizeLine_eq
  simp [fsminus_by, seqS, setS, retS, retN, exprS, nilS, ifS, parS, asgS, bindT, bindTs, bindF, callC, varF, retF, consF, nilF, iteV, truF, truD, notF, andF, orF, andV, orV, notV, chF, chT, bodyEnds, startE, optF, idxF, slcF, intF, noF, newL, tyD, isiT, isiB, lenB, absB, intB, gcdB, tupB, lstB, ltG, leG, gtG, geG, isG, isnG, o2I, isO, getS, addF, subF, mulF, eqG_ii, neG_ii, neG_bb, fdivG, modG, powG, raiseS, wipeE, Nminus_by, stD, L2.atI, L2.ixN]
  exact ⟨q, rfl, p, rfl, by rw [hs]; decide, h⟩
theorem amoby_ok (ds : List D) (S : Store) (Q : D → Store → Prop) (E : QX) (h : cBy1 amoF ds S Q E) : fsamount_by cLessR (cBy1 minF) cMaxR cMinusR (bodyEnds Q E) (startE Namount_by ds) S := by
  obtain ⟨k, p, q, rfl, hk, hp, hq, h4, h⟩ := h
  have hs := sizeLine_eq
  unfold amoF amoP at h
  simp [fsamount_by, seqS, setS, retS, retN, exprS, nilS, ifS, parS, asgS, bindT, bindTs, bindF, callC, varF, retF, consF, nilF, iteV, truF, truD, notF, andF, orF, andV, orV, notV, chF, chT, bodyEnds, startE, optF, idxF, slcF, intF, noF, newL, tyD, isiT, isiB, lenB, absB, intB, gcdB, tupB, lstB, ltG, leG, gtG, geG, isG, isnG, o2I, isO, getS, addF, subF, mulF, eqG_ii, neG_ii, neG_bb, fdivG, modG, powG, raiseS, wipeE, Namount_by, stD, L2.atI, L2.ixN, zero_eq]
  refine ⟨k + 1, 0, p, rfl, by omega, zero_z.mono (by omega), hp.mono (by omega), ?_⟩
  by_cases c : 0 < p
  · rw [if_pos c] at h
    simp [c, seqS, setS, retS, retN, exprS, nilS, ifS, parS, asgS, bindT, bindTs, bindF, callC, varF, retF, consF, nilF, iteV, truF, truD, notF, andF, orF, andV, orV, notV, chF, chT, bodyEnds, startE, optF, idxF, slcF, intF, noF, newL, tyD, isiT, isiB, lenB, absB, intB, gcdB, tupB, lstB, ltG, leG, gtG, geG, isG, isnG, o2I, isO, getS, addF, subF, mulF, eqG_ii, neG_ii, neG_bb, fdivG, modG, powG, raiseS, wipeE]
    exact h
  · rw [if_neg c] at h
    simp [c, seqS, setS, retS, retN, exprS, nilS, ifS, parS, asgS, bindT, bindTs, bindF, callC, varF, retF, consF, nilF, iteV, truF, truD, notF, andF, orF, andV, orV, notV, chF, chT, bodyEnds, startE, optF, idxF, slcF, intF, noF, newL, tyD, isiT, isiB, lenB, absB, intB, gcdB, tupB, lstB, ltG, leG, gtG, geG, isG, isnG, o2I, isO, getS, addF, subF, mulF, eqG_ii, neG_ii, neG_bb, fdivG, modG, powG, raiseS, wipeE, L2.atI, L2.ixN]
    refine ⟨k + 1, q, 0, rfl, by omega, hq.mono (by omega), zero_z.mono (by omega), ?_⟩
    by_cases c2 : q < 0
    · rw [if_pos c2] at h
      simp [c2, seqS, setS, retS, retN, exprS, nilS, ifS, parS, asgS, bindT, bindTs, bindF, callC, varF, retF, consF, nilF, iteV, truF, truD, notF, andF, orF, andV, orV, notV, chF, chT, bodyEnds, startE, optF, idxF, slcF, intF, noF, newL, tyD, isiT, isiB, lenB, absB, intB, gcdB, tupB, lstB, ltG, leG, gtG, geG, isG, isnG, o2I, isO, getS, addF, subF, mulF, eqG_ii, neG_ii, neG_bb, fdivG, modG, powG, raiseS, wipeE]
      exact ⟨k, p, q, rfl, hk, hp, hq, h4, h⟩
    · rw [if_neg c2] at h
      simp [c2, seqS, setS, retS, retN, exprS, nilS, ifS, parS, asgS, bindT, bindTs, bindF, callC, varF, retF, consF, nilF, iteV, truF, truD, notF, andF, orF, andV, orV, notV, chF, chT, bodyEnds, startE, optF, idxF, slcF, intF, noF, newL, tyD, isiT, isiB, lenB, absB, intB, gcdB, tupB, lstB, ltG, leG, gtG, geG, isG, isnG, o2I, isO, getS, addF, subF, mulF, eqG_ii, neG_ii, neG_bb, fdivG, modG, powG, raiseS, wipeE, L2.atI, L2.ixN]
      exact ⟨p, rfl, k, -p, q, rfl, by omega, hp.neg, hq, by rw [hs]; decide, h⟩
theorem minus_of_ok (ds : List D) (S : Store) (Q : D → Store → Prop) (E : QX) (h : cOne minF ds S Q E) : fsminus_of cNeedSt (cBy1 minF) (bodyEnds Q E) (startE Nminus_of ds) S := by
  obtain ⟨v, l, rfl, hv, h1, h2⟩ := h
  simp [fsminus_of, seqS, setS, retS, retN, exprS, nilS, ifS, parS, asgS, bindT, bindTs, bindF, callC, varF, retF, consF, nilF, iteV, truF, truD, notF, andF, orF, andV, orV, notV, chF, chT, bodyEnds, startE, optF, idxF, slcF, intF, noF, newL, tyD, isiT, isiB, lenB, absB, intB, gcdB, tupB, lstB, ltG, leG, gtG, geG, isG, isnG, o2I, isO, getS, addF, subF, mulF, eqG_ii, neG_ii, neG_bb, fdivG, modG, powG, raiseS, wipeE, Nminus_of]
  refine ⟨v, l, rfl, hv, fun a => ?_, h1⟩
  obtain ⟨k, p, q, rfl, hk, hp, hq, h4, h⟩ := h2 a
  exact ⟨k, p, q, rfl, hk, hp, hq, h4, h⟩
theorem amount_of_ok (ds : List D) (S : Store) (Q : D → Store → Prop) (E : QX) (h : cOne amoF ds S Q E) : fsamount_of cNeedSt (cBy1 amoF) (bodyEnds Q E) (startE Namount_of ds) S := by
  obtain ⟨v, l, rfl, hv, h1, h2⟩ := h
  simp [fsamount_of, seqS, setS, retS, retN, exprS, nilS, ifS, parS, asgS, bindT, bindTs, bindF, callC, varF, retF, consF, nilF, iteV, truF, truD, notF, andF, orF, andV, orV, notV, chF, chT, bodyEnds, startE, optF, idxF, slcF, intF, noF, newL, tyD, isiT, isiB, lenB, absB, intB, gcdB, tupB, lstB, ltG, leG, gtG, geG, isG, isnG, o2I, isO, getS, addF, subF, mulF, eqG_ii, neG_ii, neG_bb, fdivG, modG, powG, raiseS, wipeE, Namount_of]
  refine ⟨v, l, rfl, hv, fun a => ?_, h1⟩
  obtain ⟨k, p, q, rfl, hk, hp, hq, h4, h⟩ := h2 a
  exact ⟨k, p, q, rfl, hk, hp, hq, h4, h⟩
theorem Qz.pow {k : Nat} {p : Rat} (z : Qz k p) : ∀ n : Nat, Qz (k * n + 1) (p ^ n)
  | 0 => by rw [Rat.pow_zero]; exact one_z
  | n + 1 => by
    rw [Rat.pow_succ]
    exact ((Qz.pow z n).mul z).mono (by rw [Nat.mul_add]; omega)
def cRaise (i : Nat) : Ct := fun ds S Q _ => ∃ (k : Nat) (p : Rat) (n : Nat), ds = [ratD p, .int n] ∧ n ≤ i ∧ n ≤ 12 ∧ k ≤ 100 ∧ Qz k p ∧ Q (ratD (p ^ n)) S
theorem powz {k n : Nat} (hk : k ≤ 100) (hn : n ≤ 12) : k * n + 1 ≤ 1300 := by
  have := Nat.mul_le_mul hk hn
  omega
theorem raised_ok (i : Nat) (c : Ct) (hcc : ∀ e, i = e + 1 → c = cRaise e) (ds : List D) (S : Store) (Q : D → Store → Prop) (E : QX) (h : cRaise i ds S Q E) : fsraised cTimesR c (bodyEnds Q E) (startE Nraised ds) S := by
  obtain ⟨k, p, n, rfl, hi, hn, hk, hp, h⟩ := h
  simp [fsraised, seqS, setS, retS, retN, exprS, nilS, ifS, parS, asgS, bindT, bindTs, bindF, callC, varF, retF, consF, nilF, iteV, truF, truD, notF, andF, orF, andV, orV, notV, chF, chT, bodyEnds, startE, optF, idxF, slcF, intF, noF, newL, tyD, isiT, isiB, lenB, absB, intB, gcdB, tupB, lstB, ltG, leG, gtG, geG, isG, isnG, o2I, isO, getS, addF, subF, mulF, eqG_ii, neG_ii, neG_bb, fdivG, modG, powG, raiseS, wipeE, Nraised]
  cases n with
  | zero =>
    simp [seqS, setS, retS, retN, exprS, nilS, ifS, parS, asgS, bindT, bindTs, bindF, callC, varF, retF, consF, nilF, iteV, truF, truD, notF, andF, orF, andV, orV, notV, chF, chT, bodyEnds, startE, optF, idxF, slcF, intF, noF, newL, tyD, isiT, isiB, lenB, absB, intB, gcdB, tupB, lstB, ltG, leG, gtG, geG, isG, isnG, o2I, isO, getS, addF, subF, mulF, eqG_ii, neG_ii, neG_bb, fdivG, modG, powG, raiseS, wipeE, one_eq]
    rw [Rat.pow_zero] at h
    exact h
  | succ m =>
    obtain ⟨e, rfl⟩ : ∃ e, i = e + 1 := ⟨i - 1, by omega⟩
    have hm := hp.pow m
    have z := powz hk (show m ≤ 12 by omega)
    rw [hcc e rfl]
    have h0 : (0 : Int) < (m : Int) + 1 := by omega
    simp [seqS, setS, retS, retN, exprS, nilS, ifS, parS, asgS, bindT, bindTs, bindF, callC, varF, retF, consF, nilF, iteV, truF, truD, notF, andF, orF, andV, orV, notV, chF, chT, bodyEnds, startE, optF, idxF, slcF, intF, noF, newL, tyD, isiT, isiB, lenB, absB, intB, gcdB, tupB, lstB, ltG, leG, gtG, geG, isG, isnG, o2I, isO, getS, addF, subF, mulF, eqG_ii, neG_ii, neG_bb, fdivG, modG, powG, raiseS, wipeE, h0]
    refine ⟨k, p, m, rfl, by omega, by omega, hk, hp, 1400, p, p ^ m, rfl, by omega, hp.mono (by omega), hm.mono (by omega), ?_⟩
    rw [Rat.mul_comm, ← Rat.pow_succ]
    exact h
def powF (n : Nat) (p q : Rat) : D := if n = 0 then stD 1 1 else if n % 2 = 0 then stD ((amoP p q).1 ^ n) ((amoP p q).2 ^ n) else stD (p ^ n) (q ^ n)
def cPowBy : Ct := fun ds S Q _ => ∃ (k : Nat) (p q : Rat) (n : Nat), ds = [stD p q, .int n] ∧ n ≤ 12 ∧ k ≤ 99 ∧ Qz k p ∧ Qz k q ∧ p ≤ q ∧ Q (powF n p q) S
theorem amo_z {k : Nat} {p q : Rat} (hp : Qz k p) (hq : Qz k q) : Qz (k + 1) (amoP p q).1 ∧ Qz (k + 1) (amoP p q).2 := by
  unfold amoP
  split
  · exact ⟨hp.mono (by omega), hq.mono (by omega)⟩
  · split
    · exact ⟨hq.neg.mono (by omega), hp.neg.mono (by omega)⟩
    · exact ⟨zero_z.mono (by omega), (hp.neg.rmax hq).mono (by omega)⟩
theorem powby_ok (ds : List D) (S : Store) (Q : D → Store → Prop) (E : QX) (h : cPowBy ds S Q E) : fspower_by (cBy1 amoF) (cRaise 12) (bodyEnds Q E) (startE Npower_by ds) S := by
  obtain ⟨k, p, q, n, rfl, hn, hk, hp, hq, h4, h⟩ := h
  have hs := sizeLine_eq
  unfold powF at h
  by_cases c : n = 0
  · subst c
    rw [if_pos rfl] at h
    simp [fspower_by, seqS, setS, retS, retN, exprS, nilS, ifS, parS, asgS, bindT, bindTs, bindF, callC, varF, retF, consF, nilF, iteV, truF, truD, notF, andF, orF, andV, orV, notV, chF, chT, bodyEnds, startE, optF, idxF, slcF, intF, noF, newL, tyD, isiT, isiB, lenB, absB, intB, gcdB, tupB, lstB, ltG, leG, gtG, geG, isG, isnG, o2I, isO, getS, addF, subF, mulF, eqG_ii, neG_ii, neG_bb, fdivG, modG, powG, raiseS, wipeE, Npower_by, one_eq]
    exact ⟨by rw [hs]; decide, h⟩
  · rw [if_neg c] at h
    have hc : ¬ (n : Int) = 0 := by omega
    have hd : cDiv (n : Int) 2 = true := by unfold cDiv; decide +revert
    by_cases c2 : n % 2 = 0
    · rw [if_pos c2] at h
      have e2 : (n : Int).fmod 2 = 0 := by rw [Int.fmod_eq_emod_of_nonneg _ (by omega)]; omega
      simp [fspower_by, Npower_by, hc, c, seqS, setS, retS, retN, exprS, nilS, ifS, parS, asgS, bindT, bindTs, bindF, callC, varF, retF, consF, nilF, iteV, truF, truD, notF, andF, orF, andV, orV, notV, chF, chT, bodyEnds, startE, optF, idxF, slcF, intF, noF, newL, tyD, isiT, isiB, lenB, absB, intB, gcdB, tupB, lstB, ltG, leG, gtG, geG, isG, isnG, o2I, isO, getS, addF, subF, mulF, eqG_ii, neG_ii, neG_bb, fdivG, modG, powG, raiseS, wipeE, hd, e2]
      refine ⟨k, p, q, rfl, by omega, hp, hq, h4, ?_⟩
      have ⟨z1, z2⟩ := amo_z hp hq
      simp [amoF, stD, L2.atI, L2.ixN, seqS, setS, retS, retN, exprS, nilS, ifS, parS, asgS, bindT, bindTs, bindF, callC, varF, retF, consF, nilF, iteV, truF, truD, notF, andF, orF, andV, orV, notV, chF, chT, bodyEnds, startE, optF, idxF, slcF, intF, noF, newL, tyD, isiT, isiB, lenB, absB, intB, gcdB, tupB, lstB, ltG, leG, gtG, geG, isG, isnG, o2I, isO, getS, addF, subF, mulF, eqG_ii, neG_ii, neG_bb, fdivG, modG, powG, raiseS, wipeE]
      exact ⟨k + 1, _, n, rfl, hn, hn, by omega, z1, k + 1, _, n, rfl, hn, hn, by omega, z2, by rw [hs]; decide, h⟩
    · rw [if_neg c2] at h
      have e2 : (n : Int).fmod 2 = 1 := by rw [Int.fmod_eq_emod_of_nonneg _ (by omega)]; omega
      simp [fspower_by, Npower_by, hc, c, seqS, setS, retS, retN, exprS, nilS, ifS, parS, asgS, bindT, bindTs, bindF, callC, varF, retF, consF, nilF, iteV, truF, truD, notF, andF, orF, andV, orV, notV, chF, chT, bodyEnds, startE, optF, idxF, slcF, intF, noF, newL, tyD, isiT, isiB, lenB, absB, intB, gcdB, tupB, lstB, ltG, leG, gtG, geG, isG, isnG, o2I, isO, getS, addF, subF, mulF, eqG_ii, neG_ii, neG_bb, fdivG, modG, powG, raiseS, wipeE, hd, e2, stD, L2.atI, L2.ixN]
      exact ⟨k, _, n, rfl, hn, hn, by omega, hp, k, _, n, rfl, hn, hn, by omega, hq, by rw [hs]; decide, h⟩
def cPowOf : Ct := fun ds S Q E => ∃ v u l, ds = [v, u] ∧ okD l v = true ∧ datD u = true ∧ (isStr v = false → E ⟨"InvalidStretch", []⟩ S) ∧ (isStr v = true → wholeB u 0 12 = false → E ⟨"InvalidNumber", []⟩ S) ∧
  (isStr v = true → wholeB u 0 12 = true → ∃ (k : Nat) (p q : Rat) (n : Nat), v = stD p q ∧ u = .int n ∧ n ≤ 12 ∧ k ≤ 99 ∧ Qz k p ∧ Qz k q ∧ p ≤ q ∧ Q (powF n p q) S)
theorem power_of_ok (ds : List D) (S : Store) (Q : D → Store → Prop) (E : QX) (h : cPowOf ds S Q E) : fspower_of cNeedSt cNeed cPowBy (bodyEnds Q E) (startE Npower_of ds) S := by
  obtain ⟨v, u, l, rfl, hv, hu, h1, h2, h3⟩ := h
  simp [fspower_of, seqS, setS, retS, retN, exprS, nilS, ifS, parS, asgS, bindT, bindTs, bindF, callC, varF, retF, consF, nilF, iteV, truF, truD, notF, andF, orF, andV, orV, notV, chF, chT, bodyEnds, startE, optF, idxF, slcF, intF, noF, newL, tyD, isiT, isiB, lenB, absB, intB, gcdB, tupB, lstB, ltG, leG, gtG, geG, isG, isnG, o2I, isO, getS, addF, subF, mulF, eqG_ii, neG_ii, neG_bb, fdivG, modG, powG, raiseS, wipeE, Npower_of]
  refine ⟨v, l, rfl, hv, fun a => ?_, h1⟩
  refine ⟨u, 0, 12, rfl, hu, ?_⟩
  by_cases c : wholeB u 0 12 = true
  · rw [if_pos c]
    obtain ⟨k, p, q, n, rfl, rfl, hn, hk, hp, hq, h4, h⟩ := h3 a c
    exact ⟨k, p, q, n, rfl, hn, hk, hp, hq, h4, h⟩
  · rw [if_neg c]
    exact h2 a (by simpa using c)
/-! ### the law's powers -/
def cLRaise : Ct := fun ds S Q _ => ∃ (k : Nat) (p : Rat) (n : Nat), ds = [ratD p, .int n] ∧ n ≤ 12 ∧ k ≤ 100 ∧ Qz k p ∧ Q (ratD (p ^ n)) S
theorem lraised_ok (ds : List D) (S : Store) (Q : D → Store → Prop) (E : QX) (h : cLRaise ds S Q E) : fs_law_raised cTimesR (bodyEnds Q E) (startE N_law_raised ds) S := by
  obtain ⟨k, p, n, rfl, hn, hk, hp, h⟩ := h
  have hs := sizeLine_eq
  have sb : smallB (n : Int) = true := by unfold smallB; simp; omega
  simp [fs_law_raised, seqS, setS, retS, retN, exprS, nilS, ifS, parS, asgS, bindT, bindTs, bindF, callC, varF, retF, consF, nilF, iteV, truF, truD, notF, andF, orF, andV, orV, notV, chF, chT, bodyEnds, startE, optF, idxF, slcF, intF, noF, newL, tyD, isiT, isiB, lenB, absB, intB, gcdB, tupB, lstB, ltG, leG, gtG, geG, isG, isnG, o2I, isO, getS, addF, subF, mulF, eqG_ii, neG_ii, neG_bb, fdivG, modG, powG, raiseS, wipeE, N_law_raised, one_eq, forS, rng1, sb]
  refine ⟨by rw [hs]; decide, ?_⟩
  refine forL_inv (I := fun i τ S' => S' = S ∧ ∃ y, τ = [some (ratD p), some (.int n), some (ratD (p ^ i)), y]) _ 0 ⟨rfl, _, by rw [Rat.pow_zero]⟩ ?_ ?_
  · rintro j d hd τ S' K ⟨rfl, y, rfl⟩ hK
    obtain ⟨hj, rfl⟩ := rngItems_get hd
    refine ⟨trivial, _, rfl, ?_⟩
    simp only [Nat.zero_add] at hK ⊢
    have hm := hp.pow j
    have z := powz hk (show j ≤ 12 by omega)
    simp [seqS, setS, retS, retN, exprS, nilS, ifS, parS, asgS, bindT, bindTs, bindF, callC, varF, retF, consF, nilF, iteV, truF, truD, notF, andF, orF, andV, orV, notV, chF, chT, bodyEnds, startE, optF, idxF, slcF, intF, noF, newL, tyD, isiT, isiB, lenB, absB, intB, gcdB, tupB, lstB, ltG, leG, gtG, geG, isG, isnG, o2I, isO, getS, addF, subF, mulF, eqG_ii, neG_ii, neG_bb, fdivG, modG, powG, raiseS, wipeE]
    refine ⟨1400, p ^ j, p, rfl, by omega, hm.mono (by omega), hp.mono (by omega), ?_⟩
    exact hK _ _ ⟨rfl, some (.int (0 + (j : Nat) * 1)), by rw [Rat.pow_succ]; simp⟩
  · rintro τ S' ⟨rfl, y, rfl⟩
    refine ⟨trivial, ?_⟩
    rw [show (rngItems 0 1 n).length = n by simp [rngItems]]
    simp [seqS, setS, retS, retN, exprS, nilS, ifS, parS, asgS, bindT, bindTs, bindF, callC, varF, retF, consF, nilF, iteV, truF, truD, notF, andF, orF, andV, orV, notV, chF, chT, bodyEnds, startE, optF, idxF, slcF, intF, noF, newL, tyD, isiT, isiB, lenB, absB, intB, gcdB, tupB, lstB, ltG, leG, gtG, geG, isG, isnG, o2I, isO, getS, addF, subF, mulF, eqG_ii, neG_ii, neG_bb, fdivG, modG, powG, raiseS, wipeE]
    exact h
end LawX

set_option Elab.async false
set_option linter.all false
set_option maxRecDepth 100000
set_option maxHeartbeats 0
set_option exponentiation.threshold 5000
namespace LawX
open PySem PySem.Spec PyProof.Rows L2 Dx
/-! ### drawn stretches -/
theorem big4 {n : Int} (h : n ≤ 5000) : n < 2 ^ 4000 := by
  have : (5000 : Int) < 2 ^ 4000 := by decide
  omega
theorem qz_pos {a b : Int} (h : 0 < b) : qz a b = qf a b := by unfold qz; rw [if_pos h]
theorem lany_z {a b : Int} (h1 : a.natAbs ≤ 2000) (h2 : 1 ≤ b) (h3 : b ≤ 900) : Qz 11 (qz a b) := by
  rw [qz_pos (by omega)]
  have e1 : (2 : Nat) ^ 11 = 2048 := by decide
  have e2 : (2 : Int) ^ 11 = 2048 := by decide
  exact Fz.q ⟨by omega, by omega, by omega⟩
def cLAny : Ct := fun ds S Q _ => ∃ n, ds = [.obj n] ∧ Cup n S ∧ ∀ (x : Rat) S', Qz 11 x → CupR n S S' → Q (ratD x) S'
theorem lany_ok (ds : List D) (S : Store) (Q : D → Store → Prop) (E : QX) (h : cLAny ds S Q E) : fs_law_any cMadeQ cRoll cSome (bodyEnds Q E) (startE N_law_any ds) S := by
  obtain ⟨n, rfl, hc, hq⟩ := h
  have hs := sizeLine_eq
  have z1 : ∀ k : Nat, k ≤ 100 → k ≤ sizeLine := fun k h => by omega
  simp [fs_law_any, seqS, setS, retS, retN, exprS, nilS, ifS, parS, asgS, bindT, bindTs, bindF, callC, varF, retF, consF, nilF, iteV, truF, truD, notF, andF, orF, andV, orV, notV, chF, chT, bodyEnds, startE, optF, idxF, slcF, intF, noF, newL, tyD, isiT, isiB, lenB, absB, intB, gcdB, tupB, lstB, ltG, leG, gtG, geG, isG, isnG, o2I, isO, getS, addF, subF, mulF, eqG_ii, neG_ii, neG_bb, fdivG, modG, powG, raiseS, wipeE, N_law_any]
  refine ⟨n, 41, rfl, hc, by decide, big4 (by decide), fun k1 S1 a1 a2 r1 => ?_⟩
  simp [seqS, setS, retS, retN, exprS, nilS, ifS, parS, asgS, bindT, bindTs, bindF, callC, varF, retF, consF, nilF, iteV, truF, truD, notF, andF, orF, andV, orV, notV, chF, chT, bodyEnds, startE, optF, idxF, slcF, intF, noF, newL, tyD, isiT, isiB, lenB, absB, intB, gcdB, tupB, lstB, ltG, leG, gtG, geG, isG, isnG, o2I, isO, getS, addF, subF, mulF, eqG_ii, neG_ii, neG_bb, fdivG, modG, powG, raiseS, wipeE]
  refine ⟨n, 4001, rfl, r1.cup, by decide, big4 (by decide), fun k2 S2 b1 b2 r2 => ?_⟩
  simp [seqS, setS, retS, retN, exprS, nilS, ifS, parS, asgS, bindT, bindTs, bindF, callC, varF, retF, consF, nilF, iteV, truF, truD, notF, andF, orF, andV, orV, notV, chF, chT, bodyEnds, startE, optF, idxF, slcF, intF, noF, newL, tyD, isiT, isiB, lenB, absB, intB, gcdB, tupB, lstB, ltG, leG, gtG, geG, isG, isnG, o2I, isO, getS, addF, subF, mulF, eqG_ii, neG_ii, neG_bb, fdivG, modG, powG, raiseS, wipeE, z1]
  refine ⟨n, _, rfl, r2.cup, by simp, z1 _ (by simp), fun d S3 hd r3 => ?_⟩
  obtain ⟨a, rfl, ha⟩ : ∃ a : Int, d = .int a ∧ a.natAbs ≤ 2000 := by
    simp only [List.mem_cons, List.not_mem_nil, or_false] at hd
    rcases hd with rfl | rfl | rfl | rfl | rfl | rfl
    · exact ⟨_, rfl, by decide⟩
    · exact ⟨_, rfl, by decide⟩
    · exact ⟨_, rfl, by decide⟩
    · exact ⟨_, rfl, by decide⟩
    · exact ⟨_, rfl, by omega⟩
    · exact ⟨_, rfl, by omega⟩
  try simp [seqS, setS, retS, retN, exprS, nilS, ifS, parS, asgS, bindT, bindTs, bindF, callC, varF, retF, consF, nilF, iteV, truF, truD, notF, andF, orF, andV, orV, notV, chF, chT, bodyEnds, startE, optF, idxF, slcF, intF, noF, newL, tyD, isiT, isiB, lenB, absB, intB, gcdB, tupB, lstB, ltG, leG, gtG, geG, isG, isnG, o2I, isO, getS, addF, subF, mulF, eqG_ii, neG_ii, neG_bb, fdivG, modG, powG, raiseS, wipeE, z1]
  refine ⟨n, _, rfl, r3.cup, by simp, z1 _ (by simp), fun d2 S4 hd2 r4 => ?_⟩
  obtain ⟨m, rfl, hm⟩ : ∃ m : Int, d2 = .int m ∧ 0 < m ∧ m ≤ 900 := by
    simp only [List.mem_cons, List.not_mem_nil, or_false] at hd2
    rcases hd2 with rfl | rfl | rfl
    · exact ⟨_, rfl, by decide⟩
    · exact ⟨_, rfl, by decide⟩
    · exact ⟨_, rfl, by decide⟩
  refine ⟨n, m, rfl, r4.cup, hm.1, big4 (by omega), fun k5 S5 c1 c2 r5 => ?_⟩
  have e4 : (900 : Nat) < 2 ^ 4000 := by decide
  exact ⟨a, 1 + k5, rfl, by omega, by omega, hq _ _ (lany_z ha (by omega) (by omega)) ((((r1.trans r2).trans r3).trans r4).trans r5)⟩
def cLOrd : Ct := fun ds S Q _ => ∃ k p q, ds = [ratD p, ratD q] ∧ k ≤ 1500 ∧ Qz k p ∧ Qz k q ∧ ∀ r s, Qz k r → Qz k s → r ≤ s → Q (stD r s) S
theorem lord_ok (ds : List D) (S : Store) (Q : D → Store → Prop) (E : QX) (h : cLOrd ds S Q E) : fs_law_order cLessR (bodyEnds Q E) (startE N_law_order ds) S := by
  obtain ⟨k, p, q, rfl, hk, hp, hq, h⟩ := h
  have hs := sizeLine_eq
  have z2 : 2 ≤ sizeLine := by omega
  simp [fs_law_order, seqS, setS, retS, retN, exprS, nilS, ifS, parS, asgS, bindT, bindTs, bindF, callC, varF, retF, consF, nilF, iteV, truF, truD, notF, andF, orF, andV, orV, notV, chF, chT, bodyEnds, startE, optF, idxF, slcF, intF, noF, newL, tyD, isiT, isiB, lenB, absB, intB, gcdB, tupB, lstB, ltG, leG, gtG, geG, isG, isnG, o2I, isO, getS, addF, subF, mulF, eqG_ii, neG_ii, neG_bb, fdivG, modG, powG, raiseS, wipeE, N_law_order]
  refine ⟨k, q, p, rfl, hk, hq, hp, ?_⟩
  by_cases c : q < p
  · simp [c, seqS, setS, retS, retN, exprS, nilS, ifS, parS, asgS, bindT, bindTs, bindF, callC, varF, retF, consF, nilF, iteV, truF, truD, notF, andF, orF, andV, orV, notV, chF, chT, bodyEnds, startE, optF, idxF, slcF, intF, noF, newL, tyD, isiT, isiB, lenB, absB, intB, gcdB, tupB, lstB, ltG, leG, gtG, geG, isG, isnG, o2I, isO, getS, addF, subF, mulF, eqG_ii, neG_ii, neG_bb, fdivG, modG, powG, raiseS, wipeE, z2]
    exact h q p hq hp (Rat.le_of_lt c)
  · simp [c, seqS, setS, retS, retN, exprS, nilS, ifS, parS, asgS, bindT, bindTs, bindF, callC, varF, retF, consF, nilF, iteV, truF, truD, notF, andF, orF, andV, orV, notV, chF, chT, bodyEnds, startE, optF, idxF, slcF, intF, noF, newL, tyD, isiT, isiB, lenB, absB, intB, gcdB, tupB, lstB, ltG, leG, gtG, geG, isG, isnG, o2I, isO, getS, addF, subF, mulF, eqG_ii, neG_ii, neG_bb, fdivG, modG, powG, raiseS, wipeE, z2]
    exact h p q hp hq (Rat.not_lt.mp c)
def cLStr : Ct := fun ds S Q _ => ∃ n, ds = [.obj n] ∧ Cup n S ∧ ∀ (p q : Rat) S', Qz 11 p → Qz 11 q → p ≤ q → CupR n S S' → Q (stD p q) S'
theorem lstr_ok (ds : List D) (S : Store) (Q : D → Store → Prop) (E : QX) (h : cLStr ds S Q E) : fs_law_stretch cLAny cRoll cLOrd (bodyEnds Q E) (startE N_law_stretch ds) S := by
  obtain ⟨n, rfl, hc, hq⟩ := h
  have hs := sizeLine_eq
  have z2 : 2 ≤ sizeLine := by omega
  simp [fs_law_stretch, seqS, setS, retS, retN, exprS, nilS, ifS, parS, asgS, bindT, bindTs, bindF, callC, varF, retF, consF, nilF, iteV, truF, truD, notF, andF, orF, andV, orV, notV, chF, chT, bodyEnds, startE, optF, idxF, slcF, intF, noF, newL, tyD, isiT, isiB, lenB, absB, intB, gcdB, tupB, lstB, ltG, leG, gtG, geG, isG, isnG, o2I, isO, getS, addF, subF, mulF, eqG_ii, neG_ii, neG_bb, fdivG, modG, powG, raiseS, wipeE, N_law_stretch]
  refine ⟨n, rfl, hc, fun x S1 zx r1 => ?_⟩
  simp [seqS, setS, retS, retN, exprS, nilS, ifS, parS, asgS, bindT, bindTs, bindF, callC, varF, retF, consF, nilF, iteV, truF, truD, notF, andF, orF, andV, orV, notV, chF, chT, bodyEnds, startE, optF, idxF, slcF, intF, noF, newL, tyD, isiT, isiB, lenB, absB, intB, gcdB, tupB, lstB, ltG, leG, gtG, geG, isG, isnG, o2I, isO, getS, addF, subF, mulF, eqG_ii, neG_ii, neG_bb, fdivG, modG, powG, raiseS, wipeE]
  refine ⟨n, 5, rfl, r1.cup, by decide, big4 (by decide), fun k S2 a1 a2 r2 => ?_⟩
  by_cases c : k = 0
  · simp [seqS, setS, retS, retN, exprS, nilS, ifS, parS, asgS, bindT, bindTs, bindF, callC, varF, retF, consF, nilF, iteV, truF, truD, notF, andF, orF, andV, orV, notV, chF, chT, bodyEnds, startE, optF, idxF, slcF, intF, noF, newL, tyD, isiT, isiB, lenB, absB, intB, gcdB, tupB, lstB, ltG, leG, gtG, geG, isG, isnG, o2I, isO, getS, addF, subF, mulF, eqG_ii, neG_ii, neG_bb, fdivG, modG, powG, raiseS, wipeE, c, z2]
    exact hq x x S2 zx zx Rat.le_refl (r1.trans r2)
  · simp [seqS, setS, retS, retN, exprS, nilS, ifS, parS, asgS, bindT, bindTs, bindF, callC, varF, retF, consF, nilF, iteV, truF, truD, notF, andF, orF, andV, orV, notV, chF, chT, bodyEnds, startE, optF, idxF, slcF, intF, noF, newL, tyD, isiT, isiB, lenB, absB, intB, gcdB, tupB, lstB, ltG, leG, gtG, geG, isG, isnG, o2I, isO, getS, addF, subF, mulF, eqG_ii, neG_ii, neG_bb, fdivG, modG, powG, raiseS, wipeE, c]
    refine ⟨n, rfl, r2.cup, fun y S3 zy r3 => ?_⟩
    simp [seqS, setS, retS, retN, exprS, nilS, ifS, parS, asgS, bindT, bindTs, bindF, callC, varF, retF, consF, nilF, iteV, truF, truD, notF, andF, orF, andV, orV, notV, chF, chT, bodyEnds, startE, optF, idxF, slcF, intF, noF, newL, tyD, isiT, isiB, lenB, absB, intB, gcdB, tupB, lstB, ltG, leG, gtG, geG, isG, isnG, o2I, isO, getS, addF, subF, mulF, eqG_ii, neG_ii, neG_bb, fdivG, modG, powG, raiseS, wipeE]
    exact ⟨11, x, y, rfl, by omega, zx, zy, fun r s zr zs h => hq r s S3 zr zs h ((r1.trans r2).trans r3)⟩
/-! ### the same text -/
def cSame : Ct := fun ds S Q _ => ∃ d, ds = [d, d] ∧ repOk d = true ∧ Q (.bl true) S
theorem same_ok (ds : List D) (S : Store) (Q : D → Store → Prop) (E : QX) (h : cSame ds S Q E) : fs_law_same (bodyEnds Q E) (startE N_law_same ds) S := by
  obtain ⟨d, rfl, hd, hq⟩ := h
  simp [fs_law_same, seqS, setS, retS, retN, exprS, nilS, ifS, parS, asgS, bindT, bindTs, bindF, callC, varF, retF, consF, nilF, iteV, truF, truD, notF, andF, orF, andV, orV, notV, chF, chT, bodyEnds, startE, optF, idxF, slcF, intF, noF, newL, tyD, isiT, isiB, lenB, absB, intB, gcdB, tupB, lstB, ltG, leG, gtG, geG, isG, isnG, o2I, isO, getS, addF, subF, mulF, eqG_ii, neG_ii, neG_bb, fdivG, modG, powG, raiseS, wipeE, N_law_same, reprB, seqG, seqO, hd]
  exact hq
/-! ### pairs -/
def gRule (x : Str) : Option (Rat → Rat → Rat) := List.lookup x [("_law_plus", fun p q => p + q), ("_law_times", fun p q => p * q), ("_law_by", fun p q => p * q⁻¹), ("_law_lesser", rmin), ("_law_greater", rmax)]
def tbP : List (Str × Ct) := [("_law_plus", cPlusR), ("_law_times", cTimesR), ("_law_by", cByR), ("_law_lesser", cMinR), ("_law_greater", cMaxR)]
def parL (g : Rat → Rat → Rat) (p q r s : Rat) : List Rat := [g p r, g p s, g q r, g q s]
/-- what a rule makes of two fractions -/
def RuleOk (y : Str) (g : Rat → Rat → Rat) (k : Nat) (p r : Rat) : Prop := ∀ (S : Store) (Q : D → Store → Prop) (E : QX), Q (ratD (g p r)) S → ∃ c, tbP.lookup y = some c ∧ c [ratD p, ratD r] S Q E
theorem pairs_of {y : Str} {c : Ct} (hy : tbP.lookup y = some c) {x z : D} {τ : Dx.Env} {i j l : Nat} {S : Store} {Q : D → Store → Prop} {E : QX} (hi : τ[i]? = some (some (.gl y))) (hj : τ[j]? = some (some x)) (hl : τ[l]? = some (some z)) (h : c [x, z] S Q E) : vcallE tbP i (consF (varF j) (consF (varF l) nilF)) τ S Q E := by
  unfold vcallE
  rw [hi]
  dsimp only
  rw [hy]
  simp [seqS, setS, retS, retN, exprS, nilS, ifS, parS, asgS, bindT, bindTs, bindF, callC, varF, retF, consF, nilF, iteV, truF, truD, notF, andF, orF, andV, orV, notV, chF, chT, bodyEnds, startE, optF, idxF, slcF, intF, noF, newL, tyD, isiT, isiB, lenB, absB, intB, gcdB, tupB, lstB, ltG, leG, gtG, geG, isG, isnG, o2I, isO, getS, addF, subF, mulF, eqG_ii, neG_ii, neG_bb, fdivG, modG, powG, raiseS, wipeE, hj, hl]
  exact h
def cPairs : Ct := fun ds S Q _ => ∃ y c g k p q r s, ds = [stD p q, stD r s, .gl y] ∧ tbP.lookup y = some c ∧ k ≤ 1500 ∧ (∀ x ∈ parL g p q r s, Qz k x) ∧
  (∀ a ∈ [p, q], ∀ b ∈ [r, s], ∀ (S : Store) (Q : D → Store → Prop) (E : QX), Q (ratD (g a b)) S → c [ratD a, ratD b] S Q E) ∧ Q (hullD (parL g p q r s)) S
theorem pairs_ok (ds : List D) (S : Store) (Q : D → Store → Prop) (E : QX) (h : cPairs ds S Q E) : fs_law_pairs tbP cHullR (bodyEnds Q E) (startE N_law_pairs ds) S := by
  obtain ⟨y, c, g, k, p, q, r, s, rfl, hy, hk, hz, hc, hq⟩ := h
  have hs := sizeLine_eq
  have z1 : ∀ n : Nat, n ≤ 100 → n ≤ sizeLine := fun n h => by omega
  have z2 : ∀ n : Nat, n ≤ 100 → n < sizeLine := fun n h => by omega
  have ca : ∀ (a b : Rat), a ∈ [p, q] → b ∈ [r, s] → ∀ (S : Store) (Q : D → Store → Prop) (E : QX), Q (ratD (g a b)) S → c [ratD a, ratD b] S Q E := fun a b ha hb => hc a ha b hb
  simp [fs_law_pairs, seqS, setS, retS, retN, exprS, nilS, ifS, parS, asgS, bindT, bindTs, bindF, callC, varF, retF, consF, nilF, iteV, truF, truD, notF, andF, orF, andV, orV, notV, chF, chT, bodyEnds, startE, optF, idxF, slcF, intF, noF, newL, tyD, isiT, isiB, lenB, absB, intB, gcdB, tupB, lstB, ltG, leG, gtG, geG, isG, isnG, o2I, isO, getS, addF, subF, mulF, eqG_ii, neG_ii, neG_bb, fdivG, modG, powG, raiseS, wipeE, N_law_pairs, stD, forS, itE, itsF, forL, compF, compL, z1, z2, vcallE, hy, callE]
  refine ca p r (by simp) (by simp) _ _ _ (ca p s (by simp) (by simp) _ _ _ ?_)
  try simp [seqS, setS, retS, retN, exprS, nilS, ifS, parS, asgS, bindT, bindTs, bindF, callC, varF, retF, consF, nilF, iteV, truF, truD, notF, andF, orF, andV, orV, notV, chF, chT, bodyEnds, startE, optF, idxF, slcF, intF, noF, newL, tyD, isiT, isiB, lenB, absB, intB, gcdB, tupB, lstB, ltG, leG, gtG, geG, isG, isnG, o2I, isO, getS, addF, subF, mulF, eqG_ii, neG_ii, neG_bb, fdivG, modG, powG, raiseS, wipeE, z1, z2]
  refine ca q r (by simp) (by simp) _ _ _ (ca q s (by simp) (by simp) _ _ _ ?_)
  exact ⟨k, parL g p q r s, rfl, by simp [parL], by simp [parL], hk, hz, hq⟩
end LawX

set_option Elab.async false
set_option linter.all false
set_option maxRecDepth 100000
set_option maxHeartbeats 0
set_option exponentiation.threshold 5000
namespace LawX
open PySem PySem.Spec PyProof.Rows L2 Dx
/-! ### the plain law -/
theorem hull_of {ps : List Rat} {a b : Rat} (ha : a ∈ ps) (hb : b ∈ ps) (h1 : ∀ x ∈ ps, a ≤ x) (h2 : ∀ x ∈ ps, x ≤ b) : hullD ps = stD a b := by
  unfold hullD
  rw [minL_eq ha h1, maxR_eq hb h2]
theorem parL_mem {g : Rat → Rat → Rat} {p q r s x : Rat} : x ∈ parL g p q r s ↔ x = g p r ∨ x = g p s ∨ x = g q r ∨ x = g q s := by simp [parL]
theorem hull_sum {p q r s : Rat} (h : p ≤ q) (h' : r ≤ s) : hullD (parL (fun a b => a + b) p q r s) = sumF p q r s := by
  refine hull_of (parL_mem.mpr (.inl rfl)) (parL_mem.mpr (.inr (.inr (.inr rfl)))) (fun x hx => ?_) fun x hx => ?_
  · rcases parL_mem.mp hx with rfl | rfl | rfl | rfl <;> grind
  · rcases parL_mem.mp hx with rfl | rfl | rfl | rfl <;> grind
theorem hull_dif {p q r s : Rat} (h : p ≤ q) (h' : r ≤ s) : hullD (parL (fun a b => a + b) p q (-s) (-r)) = difF p q r s := by
  refine hull_of (parL_mem.mpr (.inl rfl)) (parL_mem.mpr (.inr (.inr (.inr rfl)))) (fun x hx => ?_) fun x hx => ?_
  · rcases parL_mem.mp hx with rfl | rfl | rfl | rfl <;> grind
  · rcases parL_mem.mp hx with rfl | rfl | rfl | rfl <;> grind
theorem hull_pro {p q r s : Rat} : hullD (parL (fun a b => a * b) p q r s) = proF p q r s := rfl
theorem hull_lea {p q r s : Rat} (h : p ≤ q) (h' : r ≤ s) : hullD (parL rmin p q r s) = leaF p q r s := by
  refine hull_of (parL_mem.mpr (.inl rfl)) (parL_mem.mpr (.inr (.inr (.inr rfl)))) (fun x hx => ?_) fun x hx => ?_
  · rcases parL_mem.mp hx with rfl | rfl | rfl | rfl <;> unfold rmin <;> grind
  · rcases parL_mem.mp hx with rfl | rfl | rfl | rfl <;> unfold rmin <;> grind
theorem hull_mos {p q r s : Rat} (h : p ≤ q) (h' : r ≤ s) : hullD (parL rmax p q r s) = mosF p q r s := by
  refine hull_of (parL_mem.mpr (.inl rfl)) (parL_mem.mpr (.inr (.inr (.inr rfl)))) (fun x hx => ?_) fun x hx => ?_
  · rcases parL_mem.mp hx with rfl | rfl | rfl | rfl <;> unfold rmax <;> grind
  · rcases parL_mem.mp hx with rfl | rfl | rfl | rfl <;> unfold rmax <;> grind
theorem hull_quo {p q r s : Rat} (c : ¬ (r ≤ 0 ∧ 0 ≤ s)) : hullD (parL (fun a b => a * b⁻¹) p q r s) = quoF p q r s := by
  unfold quoF
  rw [if_neg c]
  refine hull_congr (by simp [parL]) fun x => ?_
  rw [parL_mem]
  simp only [proL, List.mem_cons, List.not_mem_nil, or_false]
  constructor
  · rintro (h | h | h | h) <;> simp [h]
  · rintro (h | h | h | h) <;> simp [h]
/-! amounts and powers -/
def absR (p : Rat) : Rat := if p < 0 then -p else p
def withZ (p q : Rat) : List Rat := if p ≤ 0 ∧ 0 ≤ q then [0] else []
theorem hull_amo {p q : Rat} (h : p ≤ q) : hullD ([absR p, absR q] ++ withZ p q) = amoF p q := by
  unfold amoF amoP withZ
  by_cases c : 0 < p
  · have n1 : ¬ (p ≤ 0 ∧ 0 ≤ q) := by grind
    have e1 : absR p = p := by unfold absR; grind
    have e2 : absR q = q := by unfold absR; grind
    rw [if_pos c, if_neg n1, e1, e2]
    exact hull_of (by simp) (by simp) (fun x hx => by simp at hx; grind) fun x hx => by simp at hx; grind
  · rw [if_neg c]
    by_cases c2 : q < 0
    · have n1 : ¬ (p ≤ 0 ∧ 0 ≤ q) := by grind
      have e1 : absR p = -p := by unfold absR; grind
      have e2 : absR q = -q := by unfold absR; grind
      rw [if_pos c2, if_neg n1, e1, e2]
      exact hull_of (by simp) (by simp) (fun x hx => by simp at hx; grind) fun x hx => by simp at hx; grind
    · have n1 : p ≤ 0 ∧ 0 ≤ q := by grind
      have e1 : absR p = -p := by unfold absR; grind
      have e2 : absR q = q := by unfold absR; grind
      rw [if_neg c2, if_pos n1, e1, e2]
      refine hull_of (by simp) ?_ (fun x hx => by simp at hx; grind) fun x hx => by simp at hx; unfold rmax; grind
      show rmax (-p) q ∈ _
      unfold rmax
      split <;> simp
theorem pow_le {a b : Rat} (h0 : 0 ≤ a) (h : a ≤ b) : ∀ n : Nat, 0 ≤ a ^ n ∧ a ^ n ≤ b ^ n
  | 0 => by simp only [Rat.pow_zero]; exact ⟨by decide, Rat.le_refl⟩
  | n + 1 => by
    obtain ⟨h1, h2⟩ := pow_le h0 h n
    rw [Rat.pow_succ, Rat.pow_succ]
    have hb : 0 ≤ b := Rat.le_trans h0 h
    refine ⟨Rat.mul_nonneg h1 h0, ?_⟩
    exact Rat.le_trans (Rat.mul_le_mul_of_nonneg_left h h1) (Rat.mul_le_mul_of_nonneg_right h2 hb)
theorem neg_pow (a : Rat) : ∀ n : Nat, (-a) ^ (2 * n) = a ^ (2 * n) ∧ (-a) ^ (2 * n + 1) = -(a ^ (2 * n + 1))
  | 0 => by simp only [Nat.mul_zero, Nat.zero_add, Rat.pow_zero, Rat.pow_succ]; exact ⟨trivial, by grind⟩
  | n + 1 => by
    obtain ⟨h1, h2⟩ := neg_pow a n
    have e : 2 * (n + 1) = 2 * n + 1 + 1 := by omega
    rw [e, Rat.pow_succ, h2]
    refine ⟨by rw [Rat.pow_succ (n := 2 * n + 1)]; grind, ?_⟩
    rw [Rat.pow_succ, Rat.pow_succ, h2]
    rw [Rat.pow_succ (n := 2 * n + 1 + 1), Rat.pow_succ (n := 2 * n + 1)]
    grind
theorem zero_pow' : ∀ n : Nat, n ≠ 0 → (0 : Rat) ^ n = 0
  | 0, h => absurd rfl h
  | n + 1, _ => by rw [Rat.pow_succ, Rat.mul_zero]
def powL (n : Nat) (p q : Rat) : List Rat := [p ^ n, q ^ n] ++ (withZ p q).map (· ^ n)
theorem powL_mem {n : Nat} {p q x : Rat} (h : x ∈ powL n p q) : x = p ^ n ∨ x = q ^ n ∨ ((p ≤ 0 ∧ 0 ≤ q) ∧ x = 0 ^ n) := by
  unfold powL withZ at h
  by_cases c : p ≤ 0 ∧ 0 ≤ q
  · rw [if_pos c] at h
    simp at h
    rcases h with h | h | h
    · exact .inl h
    · exact .inr (.inl h)
    · exact .inr (.inr ⟨c, h⟩)
  · rw [if_neg c] at h
    simp at h
    rcases h with h | h
    · exact .inl h
    · exact .inr (.inl h)
theorem hull_pow {n : Nat} {p q : Rat} (h : p ≤ q) : hullD (powL n p q) = powF n p q := by
  unfold powF
  by_cases c : n = 0
  · rw [if_pos c]
    subst c
    refine hull_of (by simp [powL, Rat.pow_zero]) (by simp [powL, Rat.pow_zero]) (fun x hx => ?_) fun x hx => ?_ <;>
    · rcases powL_mem hx with rfl | rfl | ⟨_, rfl⟩ <;> rw [Rat.pow_zero] <;> exact Rat.le_refl
  · rw [if_neg c]
    by_cases c2 : n % 2 = 0
    · rw [if_pos c2]
      obtain ⟨m, rfl⟩ : ∃ m, n = 2 * m := ⟨n / 2, by omega⟩
      have e : ∀ a : Rat, (-a) ^ (2 * m) = a ^ (2 * m) := fun a => (neg_pow a m).1
      unfold amoP
      by_cases d : 0 < p
      · rw [if_pos d]
        obtain ⟨z1, z2⟩ := pow_le (Rat.le_of_lt d) h (2 * m)
        refine hull_of (by simp [powL]) (by simp [powL]) (fun x hx => ?_) fun x hx => ?_
        · rcases powL_mem hx with rfl | rfl | ⟨⟨k, _⟩, _⟩
          · exact Rat.le_refl
          · exact z2
          · exact absurd d (Rat.not_lt.mpr k)
        · rcases powL_mem hx with rfl | rfl | ⟨⟨k, _⟩, _⟩
          · exact z2
          · exact Rat.le_refl
          · exact absurd d (Rat.not_lt.mpr k)
      · rw [if_neg d]
        by_cases d2 : q < 0
        · rw [if_pos d2]
          obtain ⟨z1, z2⟩ := pow_le (a := -q) (b := -p) (by grind) (by grind) (2 * m)
          rw [e, e] at z2
          simp only
          rw [e, e]
          refine hull_of (by simp [powL]) (by simp [powL]) (fun x hx => ?_) fun x hx => ?_
          · rcases powL_mem hx with rfl | rfl | ⟨⟨_, k⟩, _⟩
            · exact z2
            · exact Rat.le_refl
            · exact absurd d2 (Rat.not_lt.mpr k)
          · rcases powL_mem hx with rfl | rfl | ⟨⟨_, k⟩, _⟩
            · exact Rat.le_refl
            · exact z2
            · exact absurd d2 (Rat.not_lt.mpr k)
        · rw [if_neg d2]
          have hz : p ≤ 0 ∧ 0 ≤ q := by grind
          have w : withZ p q = [0] := by unfold withZ; rw [if_pos hz]
          have pz := (pow_le (a := -p) (b := -p) (by grind) Rat.le_refl (2 * m)).1
          have qz := (pow_le (a := q) (b := q) hz.2 Rat.le_refl (2 * m)).1
          rw [e] at pz
          simp only
          rw [zero_pow' _ c]
          have hm : rmax (-p) q ^ (2 * m) = p ^ (2 * m) ∨ rmax (-p) q ^ (2 * m) = q ^ (2 * m) := by
            unfold rmax
            split
            · exact .inr rfl
            · exact .inl (e p)
          have h1 : p ^ (2 * m) ≤ rmax (-p) q ^ (2 * m) := by
            rw [← e p]
            exact (pow_le (by grind) (by unfold rmax; grind) (2 * m)).2
          have h2 : q ^ (2 * m) ≤ rmax (-p) q ^ (2 * m) := (pow_le hz.2 (by unfold rmax; grind) (2 * m)).2
          refine hull_of (by simp [powL, w, zero_pow' _ c]) ?_ (fun x hx => ?_) fun x hx => ?_
          · rcases hm with z | z <;> rw [z] <;> simp [powL]
          · rcases powL_mem hx with rfl | rfl | ⟨_, rfl⟩
            · exact pz
            · exact qz
            · rw [zero_pow' _ c]; exact Rat.le_refl
          · rcases powL_mem hx with rfl | rfl | ⟨_, rfl⟩
            · exact h1
            · exact h2
            · rw [zero_pow' _ c]; exact Rat.le_trans pz h1
    · rw [if_neg c2]
      obtain ⟨m, rfl⟩ : ∃ m, n = 2 * m + 1 := ⟨n / 2, by omega⟩
      have e : ∀ a : Rat, (-a) ^ (2 * m + 1) = -(a ^ (2 * m + 1)) := fun a => (neg_pow a m).2
      have neg0 : ∀ a : Rat, a ≤ 0 → a ^ (2 * m + 1) ≤ 0 := fun a ha => by
        have := (pow_le (a := -a) (b := -a) (by grind) Rat.le_refl (2 * m + 1)).1
        rw [e] at this
        grind
      have pos0 : ∀ a : Rat, 0 ≤ a → 0 ≤ a ^ (2 * m + 1) := fun a ha => (pow_le ha Rat.le_refl (2 * m + 1)).1
      have mono : p ^ (2 * m + 1) ≤ q ^ (2 * m + 1) := by
        by_cases d : 0 ≤ p
        · exact (pow_le d h _).2
        · by_cases d2 : 0 ≤ q
          · exact Rat.le_trans (neg0 p (by grind)) (pos0 q d2)
          · have := (pow_le (a := -q) (b := -p) (by grind) (by grind) (2 * m + 1)).2
            rw [e, e] at this
            grind
      refine hull_of (by simp [powL]) (by simp [powL]) (fun x hx => ?_) fun x hx => ?_
      · rcases powL_mem hx with rfl | rfl | ⟨k, rfl⟩
        · exact Rat.le_refl
        · exact mono
        · rw [zero_pow' _ c]; exact neg0 p k.1
      · rcases powL_mem hx with rfl | rfl | ⟨k, rfl⟩
        · exact mono
        · exact Rat.le_refl
        · rw [zero_pow' _ c]; exact pos0 q k.2
end LawX

set_option Elab.async false
set_option linter.all false
set_option maxRecDepth 100000
set_option maxHeartbeats 0
set_option exponentiation.threshold 5000
namespace LawX
open PySem PySem.Spec PyProof.Rows L2 Dx
/-! ### fit to be shown -/
theorem sho_rat {k : Nat} {p : Rat} (z : Qz k p) (hk : k ≤ 1500) : shoD (ratD p) = true := by
  have h1 := Nat.lt_of_lt_of_le z.1 (pow_mono (show k ≤ 1900 by omega))
  have h2 := Nat.lt_of_lt_of_le z.bn (pow_mono (show k ≤ 1900 by omega))
  simp only [ratD, fr, shoD, shoDs, Bool.and_true, Bool.and_eq_true, decide_eq_true_eq]
  exact ⟨h1, h2⟩
theorem sho_sts : ∀ (l : List (Rat × Rat)), (∀ x ∈ l, Qz 1500 x.1 ∧ Qz 1500 x.2) → shoDs (l.map fun x => stD x.1 x.2) = true ∧ cntDs (l.map fun x => stD x.1 x.2) = 7 * l.length ∧ depDs (l.map fun x => stD x.1 x.2) ≤ 2
  | [], _ => ⟨rfl, rfl, by simp [depDs]⟩
  | x :: l, h => by
    obtain ⟨h1, h2, h3⟩ := sho_sts l fun y hy => h y (List.mem_cons_of_mem _ hy)
    obtain ⟨a, b⟩ := h x List.mem_cons_self
    have s1 := sho_rat a (Nat.le_refl _)
    have s2 := sho_rat b (Nat.le_refl _)
    have e1 : cntD (stD x.1 x.2) = 7 := rfl
    have e2 : depD (stD x.1 x.2) = 2 := rfl
    refine ⟨?_, ?_, ?_⟩
    · simp only [List.map_cons, shoDs, h1, Bool.and_true]
      simp only [stD, shoD, shoDs, s1, s2, Bool.and_true]
    · simp only [List.map_cons, cntDs, e1, h2, List.length_cons]
      omega
    · simp only [List.map_cons, depDs, e2]
      omega
theorem rep_sts {l : List (Rat × Rat)} (h : ∀ x ∈ l, Qz 1500 x.1 ∧ Qz 1500 x.2) (hl : l.length ≤ 100) : repOk (.lst (l.map fun x => stD x.1 x.2)) = true := by
  obtain ⟨h1, h2, h3⟩ := sho_sts l h
  have e1 : cntD (.lst (l.map fun x => stD x.1 x.2)) = 7 * l.length + 1 := by simp only [cntD, h2]
  have e2 : depD (.lst (l.map fun x => stD x.1 x.2)) ≤ 3 := by simp only [depD]; omega
  have e3 : shoD (.lst (l.map fun x => stD x.1 x.2)) = true := by simp only [shoD, h1]
  have d1 : decide (cntD (.lst (l.map fun x => stD x.1 x.2)) ≤ 2000) = true := by rw [decide_eq_true_eq, e1]; omega
  have d2 : decide (depD (.lst (l.map fun x => stD x.1 x.2)) ≤ 60) = true := by rw [decide_eq_true_eq]; omega
  unfold repOk
  rw [e3, d1, d2]
  rfl
theorem rep_st {p q : Rat} (a : Qz 1500 p) (b : Qz 1500 q) : repOk (stD p q) = true := by
  have s1 := sho_rat a (Nat.le_refl _)
  have s2 := sho_rat b (Nat.le_refl _)
  have e1 : cntD (stD p q) = 7 := rfl
  have e2 : depD (stD p q) = 2 := rfl
  unfold repOk
  rw [e1, e2]
  simp only [stD, shoD, shoDs, s1, s2]
  decide
theorem hull_z {k : Nat} {ps : List Rat} (h0 : ps ≠ []) (h : ∀ x ∈ ps, Qz k x) (hk : k ≤ 1500) : Qz 1500 (minL ps) ∧ Qz 1500 (maxR ps) := ⟨(h _ (minL_mem h0).1).mono hk, (h _ (maxR_mem h0).1).mono hk⟩
/-! ### the law's two tests -/
theorem two_call {f : Rat → Rat → Rat → Rat → D} {k : Nat} {p q r s : Rat} {S : Store} {Q : D → Store → Prop} {E : QX} (hk : k ≤ 700) (hp : Qz k p) (hq : Qz k q) (hr : Qz k r) (hs : Qz k s) (h4 : p ≤ q) (h5 : r ≤ s) (h : Q (f p q r s) S) : cTwo f [stD p q, stD r s] S Q E :=
  ⟨stD p q, stD r s, 2, rfl, okD_st hp hq (by omega) (by omega), okD_st hr hs (by omega) (by omega), fun z => (by rw [isStr_st h4] at z; cases z), fun _ z => (by rw [isStr_st h5] at z; cases z), fun _ _ => ⟨k, p, q, r, s, rfl, rfl, hk, hp, hq, hr, hs, h4, h5, h⟩⟩
theorem pairs_call {y : Str} {c : Ct} {g : Rat → Rat → Rat} {k K : Nat} {p q r s : Rat} {S : Store} {Q : D → Store → Prop} {E : QX} (hy : tbP.lookup y = some c) (hp : Qz k p) (hq : Qz k q) (hr : Qz k r) (hs : Qz k s)
    (hg : ∀ a b, Qz k a → Qz k b → b ∈ [r, s] → Qz K (g a b) ∧ ∀ (S : Store) (Q : D → Store → Prop) (E : QX), Q (ratD (g a b)) S → c [ratD a, ratD b] S Q E) (hK : K ≤ 1500) (h : Q (hullD (parL g p q r s)) S) : cPairs [stD p q, stD r s, .gl y] S Q E := by
  refine ⟨y, c, g, K, p, q, r, s, rfl, hy, hK, fun x hx => ?_, fun a ha b hb => ?_, h⟩
  · rcases parL_mem.mp hx with rfl | rfl | rfl | rfl
    · exact (hg p r hp hr (by simp)).1
    · exact (hg p s hp hs (by simp)).1
    · exact (hg q r hq hr (by simp)).1
    · exact (hg q s hq hs (by simp)).1
  · have za : Qz k a := by
      simp only [List.mem_cons, List.not_mem_nil, or_false] at ha
      rcases ha with rfl | rfl <;> assumption
    have zb : Qz k b := by
      simp only [List.mem_cons, List.not_mem_nil, or_false] at hb
      rcases hb with rfl | rfl <;> assumption
    exact (hg a b za zb hb).2
section
variable {k : Nat} {p q r s : Rat} {S : Store} {Q : D → Store → Prop} {E : QX}
theorem pr_plus (hk : k ≤ 60) (hp : Qz k p) (hq : Qz k q) (hr : Qz k r) (hs : Qz k s) (h : Q (hullD (parL (fun a b => a + b) p q r s)) S) : cPairs [stD p q, stD r s, .gl "_law_plus"] S Q E :=
  pairs_call (c := cPlusR) (K := k + k + 1) (by kernel_rfl) hp hq hr hs (fun a b za zb _ => ⟨za.add zb, fun S Q E z => ⟨k, a, b, rfl, by omega, za, zb, z⟩⟩) (by omega) h
theorem pr_times (hk : k ≤ 60) (hp : Qz k p) (hq : Qz k q) (hr : Qz k r) (hs : Qz k s) (h : Q (hullD (parL (fun a b => a * b) p q r s)) S) : cPairs [stD p q, stD r s, .gl "_law_times"] S Q E :=
  pairs_call (c := cTimesR) (K := k + k) (by kernel_rfl) hp hq hr hs (fun a b za zb _ => ⟨za.mul zb, fun S Q E z => ⟨k, a, b, rfl, by omega, za, zb, z⟩⟩) (by omega) h
theorem pr_lesser (hk : k ≤ 60) (hp : Qz k p) (hq : Qz k q) (hr : Qz k r) (hs : Qz k s) (h : Q (hullD (parL rmin p q r s)) S) : cPairs [stD p q, stD r s, .gl "_law_lesser"] S Q E :=
  pairs_call (c := cMinR) (K := k) (by kernel_rfl) hp hq hr hs (fun a b za zb _ => ⟨za.rmin zb, fun S Q E z => ⟨k, a, b, rfl, by omega, za, zb, z⟩⟩) (by omega) h
theorem pr_greater (hk : k ≤ 60) (hp : Qz k p) (hq : Qz k q) (hr : Qz k r) (hs : Qz k s) (h : Q (hullD (parL rmax p q r s)) S) : cPairs [stD p q, stD r s, .gl "_law_greater"] S Q E :=
  pairs_call (c := cMaxR) (K := k) (by kernel_rfl) hp hq hr hs (fun a b za zb _ => ⟨za.rmax zb, fun S Q E z => ⟨k, a, b, rfl, by omega, za, zb, z⟩⟩) (by omega) h
theorem pr_by (hk : k ≤ 60) (hp : Qz k p) (hq : Qz k q) (hr : Qz k r) (hs : Qz k s) (hn : ∀ b ∈ [r, s], b ≠ 0) (h : Q (hullD (parL (fun a b => a * b⁻¹) p q r s)) S) : cPairs [stD p q, stD r s, .gl "_law_by"] S Q E :=
  pairs_call (c := cByR) (K := k + k) (by kernel_rfl) hp hq hr hs (fun a b za zb hb => ⟨za.mul (zb.inv (hn b hb)), fun S Q E z => ⟨k, a, b, rfl, by omega, za, zb, hn b hb, z⟩⟩) (by omega) h
end
def cTwoRight : Ct := fun ds S Q _ => ∃ k p q r s, ds = [stD p q, stD r s] ∧ k ≤ 60 ∧ Qz k p ∧ Qz k q ∧ Qz k r ∧ Qz k s ∧ p ≤ q ∧ r ≤ s ∧ Q (.bl true) S
theorem two_right_ok (ds : List D) (S : Store) (Q : D → Store → Prop) (E : QX) (h : cTwoRight ds S Q E) : fs_law_two_right cMinusR (cTwo mosF) (cTwo leaF) (cTwo proF) (cTwo difF) (cTwo sumF) cPairs cSame cInR (cTwo quoF) (bodyEnds Q E) (startE N_law_two_right ds) S := by
  obtain ⟨k, p, q, r, s, rfl, hk, hp, hq, hr, hs, h4, h5, h⟩ := h
  have hsz := sizeLine_eq
  have z1 : ∀ n : Nat, n ≤ 100 → n ≤ sizeLine := fun n h => by omega
  have zp := pro_z hp hq hr hs
  simp [fs_law_two_right, seqS, setS, retS, retN, exprS, nilS, ifS, parS, asgS, bindT, bindTs, bindF, callC, varF, retF, consF, nilF, iteV, truF, truD, notF, andF, orF, andV, orV, notV, chF, chT, bodyEnds, startE, optF, idxF, slcF, intF, noF, newL, tyD, isiT, isiB, lenB, absB, intB, gcdB, tupB, lstB, ltG, leG, gtG, geG, isG, isnG, o2I, isO, getS, addF, subF, mulF, eqG_ii, neG_ii, neG_bb, fdivG, modG, powG, raiseS, wipeE, N_law_two_right, stD, L2.atI, L2.ixN, z1]
  refine ⟨s, rfl, r, rfl, ?_⟩
  refine two_call (by omega) hp hq hr hs h4 h5 (two_call (by omega) hp hq hr hs h4 h5 (two_call (by omega) hp hq hr hs h4 h5 (two_call (by omega) hp hq hr hs h4 h5 (two_call (by omega) hp hq hr hs h4 h5 ?_))))
  try simp [seqS, setS, retS, retN, exprS, nilS, ifS, parS, asgS, bindT, bindTs, bindF, callC, varF, retF, consF, nilF, iteV, truF, truD, notF, andF, orF, andV, orV, notV, chF, chT, bodyEnds, startE, optF, idxF, slcF, intF, noF, newL, tyD, isiT, isiB, lenB, absB, intB, gcdB, tupB, lstB, ltG, leG, gtG, geG, isG, isnG, o2I, isO, getS, addF, subF, mulF, eqG_ii, neG_ii, neG_bb, fdivG, modG, powG, raiseS, wipeE, z1]
  refine pr_plus hk hp hq hr hs (pr_plus hk hp hq hs.neg hr.neg (pr_times hk hp hq hr hs ?_))
  rw [hull_sum h4 h5, hull_dif h4 h5, hull_pro]
  try simp [seqS, setS, retS, retN, exprS, nilS, ifS, parS, asgS, bindT, bindTs, bindF, callC, varF, retF, consF, nilF, iteV, truF, truD, notF, andF, orF, andV, orV, notV, chF, chT, bodyEnds, startE, optF, idxF, slcF, intF, noF, newL, tyD, isiT, isiB, lenB, absB, intB, gcdB, tupB, lstB, ltG, leG, gtG, geG, isG, isnG, o2I, isO, getS, addF, subF, mulF, eqG_ii, neG_ii, neG_bb, fdivG, modG, powG, raiseS, wipeE, z1]
  refine pr_lesser hk hp hq hr hs (pr_greater hk hp hq hr hs ?_)
  rw [hull_lea h4 h5, hull_mos h4 h5]
  try simp [seqS, setS, retS, retN, exprS, nilS, ifS, parS, asgS, bindT, bindTs, bindF, callC, varF, retF, consF, nilF, iteV, truF, truD, notF, andF, orF, andV, orV, notV, chF, chT, bodyEnds, startE, optF, idxF, slcF, intF, noF, newL, tyD, isiT, isiB, lenB, absB, intB, gcdB, tupB, lstB, ltG, leG, gtG, geG, isG, isnG, o2I, isO, getS, addF, subF, mulF, eqG_ii, neG_ii, neG_bb, fdivG, modG, powG, raiseS, wipeE, z1]
  refine ⟨.lst [sumF p q r s, difF p q r s, proF p q r s, leaF p q r s, mosF p q r s], rfl, ?_, ?_⟩
  · refine rep_sts (l := [(p + r, q + s), (p + -s, q + -r), (minL (proL p q r s), maxR (proL p q r s)), (rmin p r, rmin q s), (rmax p r, rmax q s)]) (fun x hx => ?_) (by simp)
    simp only [List.mem_cons, List.not_mem_nil, or_false] at hx
    rcases hx with rfl | rfl | rfl | rfl | rfl
    · exact ⟨(hp.add hr).mono (by omega), (hq.add hs).mono (by omega)⟩
    · exact ⟨(hp.add hs.neg).mono (by omega), (hq.add hr.neg).mono (by omega)⟩
    · exact hull_z (by simp [proL]) zp (by omega)
    · exact ⟨(hp.rmin hr).mono (by omega), (hq.rmin hs).mono (by omega)⟩
    · exact ⟨(hp.rmax hr).mono (by omega), (hq.rmax hs).mono (by omega)⟩
  try simp [seqS, setS, retS, retN, exprS, nilS, ifS, parS, asgS, bindT, bindTs, bindF, callC, varF, retF, consF, nilF, iteV, truF, truD, notF, andF, orF, andV, orV, notV, chF, chT, bodyEnds, startE, optF, idxF, slcF, intF, noF, newL, tyD, isiT, isiB, lenB, absB, intB, gcdB, tupB, lstB, ltG, leG, gtG, geG, isG, isnG, o2I, isO, getS, addF, subF, mulF, eqG_ii, neG_ii, neG_bb, fdivG, modG, powG, raiseS, wipeE, z1]
  rw [zero_eq]
  refine ⟨k + 1, r, s, 0, rfl, by omega, hr.mono (by omega), hs.mono (by omega), zero_z.mono (by omega), ?_⟩
  by_cases c : r ≤ 0 ∧ 0 ≤ s
  · simp [seqS, setS, retS, retN, exprS, nilS, ifS, parS, asgS, bindT, bindTs, bindF, callC, varF, retF, consF, nilF, iteV, truF, truD, notF, andF, orF, andV, orV, notV, chF, chT, bodyEnds, startE, optF, idxF, slcF, intF, noF, newL, tyD, isiT, isiB, lenB, absB, intB, gcdB, tupB, lstB, ltG, leG, gtG, geG, isG, isnG, o2I, isO, getS, addF, subF, mulF, eqG_ii, neG_ii, neG_bb, fdivG, modG, powG, raiseS, wipeE, c]
    refine two_call (by omega) hp hq hr hs h4 h5 ?_
    have e : quoF p q r s = .non := by unfold quoF; rw [if_pos c]
    rw [e]
    simp [seqS, setS, retS, retN, exprS, nilS, ifS, parS, asgS, bindT, bindTs, bindF, callC, varF, retF, consF, nilF, iteV, truF, truD, notF, andF, orF, andV, orV, notV, chF, chT, bodyEnds, startE, optF, idxF, slcF, intF, noF, newL, tyD, isiT, isiB, lenB, absB, intB, gcdB, tupB, lstB, ltG, leG, gtG, geG, isG, isnG, o2I, isO, getS, addF, subF, mulF, eqG_ii, neG_ii, neG_bb, fdivG, modG, powG, raiseS, wipeE]
    exact h
  · simp [seqS, setS, retS, retN, exprS, nilS, ifS, parS, asgS, bindT, bindTs, bindF, callC, varF, retF, consF, nilF, iteV, truF, truD, notF, andF, orF, andV, orV, notV, chF, chT, bodyEnds, startE, optF, idxF, slcF, intF, noF, newL, tyD, isiT, isiB, lenB, absB, intB, gcdB, tupB, lstB, ltG, leG, gtG, geG, isG, isnG, o2I, isO, getS, addF, subF, mulF, eqG_ii, neG_ii, neG_bb, fdivG, modG, powG, raiseS, wipeE, c]
    refine two_call (by omega) hp hq hr hs h4 h5 ?_
    have r0 : r ≠ 0 := fun e => c ⟨by rw [e]; exact Rat.le_refl, by rw [← e]; exact h5⟩
    have s0 : s ≠ 0 := fun e => c ⟨by rw [← e]; exact h5, by rw [e]; exact Rat.le_refl⟩
    refine pr_by hk hp hq hr hs (fun b hb => by
      simp only [List.mem_cons, List.not_mem_nil, or_false] at hb
      rcases hb with rfl | rfl <;> assumption) ?_
    rw [hull_quo c]
    refine ⟨_, rfl, ?_, h⟩
    unfold quoF
    rw [if_neg c]
    have zq := pro_z hp hq (hs.inv s0) (hr.inv r0)
    exact rep_st (hull_z (by simp [proL]) zq (by omega)).1 (hull_z (by simp [proL]) zq (by omega)).2
end LawX

set_option Elab.async false
set_option linter.all false
set_option maxRecDepth 100000
set_option maxHeartbeats 0
set_option exponentiation.threshold 5000
namespace LawX
open PySem PySem.Spec PyProof.Rows L2 Dx
theorem one_call {f : Rat → Rat → D} {k : Nat} {p q : Rat} {S : Store} {Q : D → Store → Prop} {E : QX} (hk : k ≤ 1400) (hp : Qz k p) (hq : Qz k q) (h4 : p ≤ q) (h : Q (f p q) S) : cOne f [stD p q] S Q E :=
  ⟨stD p q, 2, rfl, okD_st hp hq (by omega) (by omega), fun z => (by rw [isStr_st h4] at z; cases z), fun _ => ⟨k, p, q, rfl, hk, hp, hq, h4, h⟩⟩
theorem whole_nat {n : Nat} (h : n ≤ 12) : wholeB (.int n) 0 12 = true := by
  unfold wholeB
  simp
  omega
theorem pow_call {k n : Nat} {p q : Rat} {S : Store} {Q : D → Store → Prop} {E : QX} (hk : k ≤ 99) (hn : n ≤ 12) (hp : Qz k p) (hq : Qz k q) (h4 : p ≤ q) (h : Q (powF n p q) S) : cPowOf [stD p q, .int n] S Q E :=
  ⟨stD p q, .int n, 2, rfl, okD_st hp hq (by omega) (by omega), rfl, fun z => (by rw [isStr_st h4] at z; cases z), fun _ z => (by rw [whole_nat hn] at z; cases z), fun _ _ => ⟨k, p, q, n, rfl, rfl, hn, hk, hp, hq, h4, h⟩⟩
theorem num_neg {p : Rat} : decide (p.num < 0) = decide (p < 0) := by
  rw [decide_eq_decide, Rat.lt_iff]
  simp
theorem abs_rat (p : Rat) : D.tup [.int (if p.num < 0 then -p.num else p.num), .int p.den] = ratD (absR p) := by
  unfold absR
  have e : (p.num < 0) = (p < 0) := by
    have := num_neg (p := p)
    rw [decide_eq_decide] at this
    exact propext this
  by_cases c : p < 0
  · have c' : p.num < 0 := by rw [e]; exact c
    rw [if_pos c, if_pos c', neg_rat]
  · have c' : ¬ p.num < 0 := by rw [e]; exact c
    rw [if_neg c, if_neg c']
    rfl
theorem Qz.absR {k : Nat} {p : Rat} (z : Qz k p) : Qz k (absR p) := by
  unfold LawX.absR
  split
  · exact z.neg
  · exact z
theorem withZ_z {k : Nat} {p q : Rat} (hk : 1 ≤ k) : ∀ x ∈ withZ p q, Qz k x := fun x hx => by
  unfold withZ at hx
  split at hx
  · simp at hx; subst hx; exact zero_z.mono hk
  · cases hx
theorem withZ_len {p q : Rat} : (withZ p q).length ≤ 1 := by unfold withZ; split <;> simp
def cOneRight : Ct := fun ds S Q _ => ∃ (k : Nat) (p q : Rat) (n : Nat), ds = [stD p q, .int n] ∧ n ≤ 12 ∧ k ≤ 60 ∧ Qz k p ∧ Qz k q ∧ p ≤ q ∧ Q (.bl true) S
def oneE (a b c d e f g : Option D) : Dx.Env := [a, b, c, d, e, f, g]
section
variable {E : DEnds} {S : Store} {k n : Nat} {p q : Rat} {a b c d e f g : Option D}
theorem fin_right (hk : k ≤ 60) (hn : n ≤ 12) (hp : Qz k p) (hq : Qz k q) (h4 : p ≤ q) (h : E.rt (.bl true) S) :
    seqS (setS 5 (lstE false (consF (callE (cOne minF) (consF (varF 0) nilF)) (consF (callE (cOne amoF) (consF (varF 0) nilF)) (consF (callE cPowOf (consF (varF 0) (consF (varF 1) nilF))) nilF)))))
    (retS (callE cSame (consF (varF 5) (consF (lstE false (consF (tupE (consF (callE cMinusR (consF (idxE (varF 0) (int! 1)) nilF)) (consF (callE cMinusR (consF (idxE (varF 0) (int! 0)) nilF)) nilF))) (consF (callE cHullR (consF (varF 3) nilF)) (consF (callE cHullR (consF (varF 4) nilF)) nilF)))) nilF)))) E
    (oneE (some (stD p q)) (some (.int n)) c (some (.lst (([absR p, absR q] ++ withZ p q).map ratD))) (some (.lst ((powL n p q).map ratD))) f g) S := by
  have hsz := sizeLine_eq
  have z1 : ∀ n : Nat, n ≤ 100 → n ≤ sizeLine := fun n h => by omega
  have hz := withZ_z (p := p) (q := q) (k := k + 1) (by omega)
  have zl := withZ_len (p := p) (q := q)
  have za : ∀ x ∈ [absR p, absR q] ++ withZ p q, Qz (k + 1) x := fun x hx => by
    rcases List.mem_append.mp hx with hx | hx
    · simp at hx
      rcases hx with rfl | rfl
      · exact hp.absR.mono (by omega)
      · exact hq.absR.mono (by omega)
    · exact hz x hx
  have pw : ∀ x ∈ powL n p q, Qz 1400 x := fun x hx => by
    have y := powz (k := k + 1) (n := n) (by omega) hn
    rcases powL_mem hx with rfl | rfl | ⟨_, rfl⟩
    · exact ((hp.mono (show k ≤ k + 1 by omega)).pow n).mono (by omega)
    · exact ((hq.mono (show k ≤ k + 1 by omega)).pow n).mono (by omega)
    · exact ((zero_z.mono (show 1 ≤ k + 1 by omega)).pow n).mono (by omega)
  simp [oneE, seqS, setS, retS, retN, exprS, nilS, ifS, parS, asgS, bindT, bindTs, bindF, callC, varF, retF, consF, nilF, iteV, truF, truD, notF, andF, orF, andV, orV, notV, chF, chT, bodyEnds, startE, optF, idxF, slcF, intF, noF, newL, tyD, isiT, isiB, lenB, absB, intB, gcdB, tupB, lstB, ltG, leG, gtG, geG, isG, isnG, o2I, isO, getS, addF, subF, mulF, eqG_ii, neG_ii, neG_bb, fdivG, modG, powG, raiseS, wipeE, z1]
  refine one_call (by omega) hp hq h4 (one_call (by omega) hp hq h4 (pow_call (by omega) hn hp hq h4 ?_))
  simp [oneE, seqS, setS, retS, retN, exprS, nilS, ifS, parS, asgS, bindT, bindTs, bindF, callC, varF, retF, consF, nilF, iteV, truF, truD, notF, andF, orF, andV, orV, notV, chF, chT, bodyEnds, startE, optF, idxF, slcF, intF, noF, newL, tyD, isiT, isiB, lenB, absB, intB, gcdB, tupB, lstB, ltG, leG, gtG, geG, isG, isnG, o2I, isO, getS, addF, subF, mulF, eqG_ii, neG_ii, neG_bb, fdivG, modG, powG, raiseS, wipeE, z1, stD, L2.atI, L2.ixN]
  refine ⟨q, rfl, p, rfl, ?_⟩
  refine ⟨k + 1, [absR p, absR q] ++ withZ p q, by simp, by simp, by simp; omega, by omega, za, ?_⟩
  refine ⟨1400, powL n p q, rfl, by simp [powL], by simp [powL]; omega, by omega, pw, ?_⟩
  rw [hull_amo h4, hull_pow h4]
  refine ⟨_, rfl, ?_, h⟩
  have hpow : powF n p q = stD (minL (powL n p q)) (maxR (powL n p q)) := by rw [← hull_pow h4]; rfl
  have ⟨z3, z4⟩ := amo_z hp hq
  rw [hpow]
  refine rep_sts (l := [(-q, -p), ((amoP p q).1, (amoP p q).2), (minL (powL n p q), maxR (powL n p q))]) (fun x hx => ?_) (by simp)
  simp only [List.mem_cons, List.not_mem_nil, or_false] at hx
  rcases hx with rfl | rfl | rfl
  · exact ⟨hq.neg.mono (by omega), hp.neg.mono (by omega)⟩
  · exact ⟨z3.mono (by omega), z4.mono (by omega)⟩
  · exact hull_z (by simp [powL]) pw (by omega)
theorem stepA {R : FS} (hk : k ≤ 60) (hp : Qz k p) (hq : Qz k q) (h : R E (oneE (some (stD p q)) b (some (.lst ((withZ p q).map ratD))) d e f g) S) :
    seqS (setS 2 (iteV (truT (callE cInR (consF (varF 0) (consF (tupE (consF (int! 0) (consF (int! 1) nilF))) nilF)))) (lstE false (consF (tupE (consF (int! 0) (consF (int! 1) nilF))) nilF)) (lstE false nilF))) R E (oneE (some (stD p q)) b c d e f g) S := by
  have hsz := sizeLine_eq
  have z1 : ∀ n : Nat, n ≤ 100 → n ≤ sizeLine := fun n h => by omega
  simp [oneE, seqS, setS, retS, retN, exprS, nilS, ifS, parS, asgS, bindT, bindTs, bindF, callC, varF, retF, consF, nilF, iteV, truF, truD, notF, andF, orF, andV, orV, notV, chF, chT, bodyEnds, startE, optF, idxF, slcF, intF, noF, newL, tyD, isiT, isiB, lenB, absB, intB, gcdB, tupB, lstB, ltG, leG, gtG, geG, isG, isnG, o2I, isO, getS, addF, subF, mulF, eqG_ii, neG_ii, neG_bb, fdivG, modG, powG, raiseS, wipeE, z1]
  refine ⟨k + 1, p, q, 0, by rw [zero_eq], by omega, hp.mono (by omega), hq.mono (by omega), zero_z.mono (by omega), ?_⟩
  unfold withZ at h
  by_cases c : p ≤ 0 ∧ 0 ≤ q
  · rw [if_pos c] at h
    simp [c, seqS, setS, retS, retN, exprS, nilS, ifS, parS, asgS, bindT, bindTs, bindF, callC, varF, retF, consF, nilF, iteV, truF, truD, notF, andF, orF, andV, orV, notV, chF, chT, bodyEnds, startE, optF, idxF, slcF, intF, noF, newL, tyD, isiT, isiB, lenB, absB, intB, gcdB, tupB, lstB, ltG, leG, gtG, geG, isG, isnG, o2I, isO, getS, addF, subF, mulF, eqG_ii, neG_ii, neG_bb, fdivG, modG, powG, raiseS, wipeE, z1]
    rw [zero_eq]
    exact h
  · rw [if_neg c] at h
    simp [c, seqS, setS, retS, retN, exprS, nilS, ifS, parS, asgS, bindT, bindTs, bindF, callC, varF, retF, consF, nilF, iteV, truF, truD, notF, andF, orF, andV, orV, notV, chF, chT, bodyEnds, startE, optF, idxF, slcF, intF, noF, newL, tyD, isiT, isiB, lenB, absB, intB, gcdB, tupB, lstB, ltG, leG, gtG, geG, isG, isnG, o2I, isO, getS, addF, subF, mulF, eqG_ii, neG_ii, neG_bb, fdivG, modG, powG, raiseS, wipeE, z1]
    exact h
theorem stepB {R : FS} {Z : List Rat} (hZ : Z.length ≤ 1) (h : R E (oneE (some (stD p q)) b (some (.lst (Z.map ratD))) (some (.lst (([absR p, absR q] ++ Z).map ratD))) e f g) S) :
    seqS (setS 3 (binE (addF false) (compF false (itE (varF 0)) (.name 6) (retF true) (tupE (consF (biE absB (consF (idxE (varF 6) (int! 0)) nilF)) (consF (idxE (varF 6) (int! 1)) nilF))) ([("own", 6)].map (·.2))) (varF 2))) R E (oneE (some (stD p q)) b (some (.lst (Z.map ratD))) d e f g) S := by
  have hsz := sizeLine_eq
  have z1 : ∀ n : Nat, n ≤ 100 → n ≤ sizeLine := fun n h => by omega
  have z2 : ∀ n : Nat, n ≤ 100 → n < sizeLine := fun n h => by omega
  have ep := abs_rat p
  have eq := abs_rat q
  simp only [seqS, setS, binE, bindF]
  refine compF_val [ratD p, ratD q] (fun _ => True) (fun _ => true) (fun d => match d with | .tup [.int a, .int b] => .tup [.int (if a < 0 then -a else a), .int b] | _ => .non) (fun Q h => ?_) trivial (z1 _ (by simp)) (fun d hd => ⟨_, rfl, fun Q h => h, fun _ Q h => ?_⟩) ?_
  · simp [oneE, stD, itE, itsF, seqS, setS, retS, retN, exprS, nilS, ifS, parS, asgS, bindT, bindTs, bindF, callC, varF, retF, consF, nilF, iteV, truF, truD, notF, andF, orF, andV, orV, notV, chF, chT, bodyEnds, startE, optF, idxF, slcF, intF, noF, newL, tyD, isiT, isiB, lenB, absB, intB, gcdB, tupB, lstB, ltG, leG, gtG, geG, isG, isnG, o2I, isO, getS, addF, subF, mulF, eqG_ii, neG_ii, neG_bb, fdivG, modG, powG, raiseS, wipeE]
    exact h
  · simp only [List.mem_cons, List.not_mem_nil, or_false] at hd
    rcases hd with rfl | rfl
    · simp [oneE, ratD, fr, L2.atI, L2.ixN, seqS, setS, retS, retN, exprS, nilS, ifS, parS, asgS, bindT, bindTs, bindF, callC, varF, retF, consF, nilF, iteV, truF, truD, notF, andF, orF, andV, orV, notV, chF, chT, bodyEnds, startE, optF, idxF, slcF, intF, noF, newL, tyD, isiT, isiB, lenB, absB, intB, gcdB, tupB, lstB, ltG, leG, gtG, geG, isG, isnG, o2I, isO, getS, addF, subF, mulF, eqG_ii, neG_ii, neG_bb, fdivG, modG, powG, raiseS, wipeE, z1] at h ⊢
      exact h
    · simp [oneE, ratD, fr, L2.atI, L2.ixN, seqS, setS, retS, retN, exprS, nilS, ifS, parS, asgS, bindT, bindTs, bindF, callC, varF, retF, consF, nilF, iteV, truF, truD, notF, andF, orF, andV, orV, notV, chF, chT, bodyEnds, startE, optF, idxF, slcF, intF, noF, newL, tyD, isiT, isiB, lenB, absB, intB, gcdB, tupB, lstB, ltG, leG, gtG, geG, isG, isnG, o2I, isO, getS, addF, subF, mulF, eqG_ii, neG_ii, neG_bb, fdivG, modG, powG, raiseS, wipeE, z1] at h ⊢
      exact h
  · have e : List.map (fun d => match d with | D.tup [.int a, .int b] => D.tup [.int (if a < 0 then -a else a), .int b] | _ => D.non) (List.filter (fun _ => true) [ratD p, ratD q]) = [absR p, absR q].map ratD := by
      show [D.tup [.int (if p.num < 0 then -p.num else p.num), .int p.den], D.tup [.int (if q.num < 0 then -q.num else q.num), .int q.den]] = _
      rw [ep, eq]
      rfl
    rw [e]
    have hl : ([absR p, absR q].map ratD).length + (Z.map ratD).length ≤ sizeLine := z1 _ (by simp; omega)
    rw [List.map_append] at h
    simp only [oneE, varF, List.getElem?_cons_succ, List.getElem?_cons_zero, addF, getS, newL]
    exact ⟨hl, h⟩
theorem stepC {R : FS} {Z : List Rat} (hZ : Z.length ≤ 1) (hk : k ≤ 99) (hn : n ≤ 12) (hp : Qz k p) (hq : Qz k q) (hz : ∀ x ∈ Z, Qz k x) (h : R E (oneE (some (stD p q)) (some (.int n)) (some (.lst (Z.map ratD))) d (some (.lst (([p ^ n, q ^ n] ++ Z.map (· ^ n)).map ratD))) f g) S) :
    seqS (setS 4 (compF false (itE (binE (addF false) (biE (lstB false) (consF (varF 0) nilF)) (varF 2))) (.name 6) (retF true) (callE cLRaise (consF (varF 6) (consF (varF 1) nilF))) ([("own", 6)].map (·.2)))) R E (oneE (some (stD p q)) (some (.int n)) (some (.lst (Z.map ratD))) d e f g) S := by
  have hsz := sizeLine_eq
  have z1 : ∀ n : Nat, n ≤ 100 → n ≤ sizeLine := fun n h => by omega
  have hl : ([p, q].map ratD).length + (Z.map ratD).length ≤ sizeLine := z1 _ (by simp; omega)
  simp only [seqS, setS]
  refine compF_val (([p, q] ++ Z).map ratD) (fun _ => True) (fun _ => true) (fun d => match d with | .tup [.int a, .int b] => ratD (qf a b ^ n) | _ => .non) (fun Q h => ?_) trivial (z1 _ (by simp; omega)) (fun d hd => ⟨_, rfl, fun Q h => h, fun _ Q h => ?_⟩) ?_
  · rw [List.map_append] at h
    simp only [oneE, stD, itE, itsF, lstB, binE, biE, bindF, consF, nilF, retF, varF, List.getElem?_cons_succ, List.getElem?_cons_zero, addF, getS, newL]
    exact ⟨hl, h⟩
  · obtain ⟨x, hx, rfl⟩ := List.mem_map.mp hd
    have zx : Qz k x := by
      rcases List.mem_append.mp hx with hx | hx
      · simp at hx
        rcases hx with rfl | rfl <;> assumption
      · exact hz x hx
    have h' : Q (ratD (x ^ n)) S := by
      have e : qf x.num x.den = x := qf_rat x
      simp only [ratD, fr] at h
      rw [e] at h
      exact h
    simp [oneE, seqS, setS, retS, retN, exprS, nilS, ifS, parS, asgS, bindT, bindTs, bindF, callC, varF, retF, consF, nilF, iteV, truF, truD, notF, andF, orF, andV, orV, notV, chF, chT, bodyEnds, startE, optF, idxF, slcF, intF, noF, newL, tyD, isiT, isiB, lenB, absB, intB, gcdB, tupB, lstB, ltG, leG, gtG, geG, isG, isnG, o2I, isO, getS, addF, subF, mulF, eqG_ii, neG_ii, neG_bb, fdivG, modG, powG, raiseS, wipeE]
    exact ⟨k, x, n, rfl, hn, by omega, zx, h'⟩
  · have e : List.map (fun d => match d with | D.tup [.int a, .int b] => ratD (qf a b ^ n) | _ => D.non) (List.filter (fun _ => true) (([p, q] ++ Z).map ratD)) = ([p ^ n, q ^ n] ++ Z.map (· ^ n)).map ratD := by
      have ef : ∀ l : List D, List.filter (fun _ => true) l = l := fun l => by simp
      rw [ef, List.map_map]
      have e2 : ((fun d => match d with | D.tup [.int a, .int b] => ratD (qf a b ^ n) | _ => D.non) ∘ ratD) = fun x : Rat => ratD (x ^ n) := by
        funext x
        show ratD (qf x.num x.den ^ n) = _
        rw [qf_rat]
      rw [e2]
      simp
    rw [e]
    exact h
end
theorem one_right_ok (ds : List D) (S : Store) (Q : D → Store → Prop) (E : QX) (h : cOneRight ds S Q E) : fs_law_one_right cInR cLRaise cPowOf (cOne amoF) (cOne minF) cSame cHullR cMinusR (bodyEnds Q E) (startE N_law_one_right ds) S := by
  obtain ⟨k, p, q, n, rfl, hn, hk, hp, hq, h4, h⟩ := h
  have zl := withZ_len (p := p) (q := q)
  have hz := withZ_z (p := p) (q := q) (k := k + 1) (by omega)
  unfold fs_law_one_right
  refine stepA (b := some (.int n)) (d := none) (e := none) (f := none) (g := none) hk hp hq ?_
  refine stepB (e := none) (f := none) (g := none) zl ?_
  refine stepC (k := k + 1) (f := none) (g := none) zl (by omega) hn (hp.mono (by omega)) (hq.mono (by omega)) hz ?_
  exact fin_right hk hn hp hq h4 h
end LawX

set_option Elab.async false
set_option linter.all false
set_option maxRecDepth 100000
set_option maxHeartbeats 0
set_option exponentiation.threshold 5000
namespace LawX
open PySem PySem.Spec PyProof.Rows L2 Dx
/-! ### law() -/
def lv (s c t o u wd un ze to du gr od wo ca ak ow : Option D) : Dx.Env := [s, c, t, o, u, wd, un, ze, to, du, gr, od, wo, ca, ak, ow]
def sW : D := .str "stretch"
def nW : D := .str "number"
def rep (n : Nat) (w : D) : List D := List.replicate n w
theorem rep_add {m n : Nat} {w : D} : rep m w ++ rep n w = rep (m + n) w := by
  unfold rep
  exact List.replicate_append_replicate
theorem rep_len {n : Nat} {w : D} : (rep n w).length = n := List.length_replicate
theorem map_all {l : List D} {w : D} : ((l.filter fun _ => true).map fun _ => w) = rep l.length w := by
  have e : l.filter (fun _ => true) = l := by simp
  rw [e, List.map_const']
  rfl
theorem w_str : w_law_error "InvalidStretch" = some "stretch" := by kernel_rfl
theorem w_num : w_law_error "InvalidNumber" = some "number" := by kernel_rfl
theorem p13 : cPow 10 13 = true := by decide
def wp : Rat := qf (-3) 2
def wq : Rat := qf 1 2
def tn : Rat := qf 10000000000000 1
def tv : Rat := qf 1 10000000000000
def r3 : Rat := qf 3 1
def r2 : Rat := qf 2 1
def m2 : Rat := qf (-2) 1
theorem z_wp : Qz 50 wp := Fz.q ⟨by decide, by decide, by decide⟩
theorem z_wq : Qz 50 wq := Fz.q ⟨by decide, by decide, by decide⟩
theorem z_tn : Qz 50 tn := Fz.q ⟨by decide, by decide, by decide⟩
theorem z_tv : Qz 50 tv := Fz.q ⟨by decide, by decide, by decide⟩
theorem z_r3 : Qz 50 r3 := Fz.q ⟨by decide, by decide, by decide⟩
theorem z_r2 : Qz 50 r2 := Fz.q ⟨by decide, by decide, by decide⟩
theorem z_m2 : Qz 50 m2 := Fz.q ⟨by decide, by decide, by decide⟩
theorem z_0 : Qz 50 0 := zero_z.mono (by decide)
theorem z_1 : Qz 50 1 := one_z.mono (by decide)
theorem w_le : wp ≤ wq := by decide +kernel
theorem g_le : (0 : Rat) ≤ tn := by decide +kernel
theorem v_le : tv ≤ r3 := by decide +kernel
theorem m_le : m2 ≤ r3 := by decide +kernel
def wideD : D := stD wp wq
def unitD : D := stD 1 1
def zeroD : D := stD 0 0
def greatD : D := stD 0 tn
theorem wide_eq : wideD = .tup [.tup [.int (-3), .int 2], .tup [.int 1, .int 2]] := by kernel_rfl
theorem unit_eq : unitD = .tup [.tup [.int 1, .int 1], .tup [.int 1, .int 1]] := by kernel_rfl
theorem zero_eq2 : zeroD = .tup [.tup [.int 0, .int 1], .tup [.int 0, .int 1]] := by kernel_rfl
theorem great_eq : greatD = .tup [.tup [.int 0, .int 1], .tup [.int 10000000000000, .int 1]] := by kernel_rfl
theorem thin_eq : D.tup [.tup [.int 1, .int 10000000000000], .tup [.int 3, .int 1]] = stD tv r3 := by kernel_rfl
theorem m23_eq : D.tup [.tup [.int (-2), .int 1], .tup [.int 3, .int 1]] = stD m2 r3 := by kernel_rfl
theorem two_eq : D.tup [.tup [.int 2, .int 1], .tup [.int 2, .int 1]] = stD r2 r2 := by kernel_rfl
def told4 : List D := [powF 2 wp wq, powF 3 wp wq, powF 0 0 0, amoF wp wq]
def told3 : List D := [quoF 1 1 0 0, quoF 0 0 1 1, proF wp wq wp wq]
def dueL : List D := [.tup [.tup [.int 0, .int 1], .tup [.int 9, .int 4]], .tup [.tup [.int (-27), .int 8], .tup [.int 1, .int 8]], unitD, .tup [.tup [.int 0, .int 1], .tup [.int 3, .int 2]], .non, zeroD, .tup [.tup [.int (-3), .int 4], .tup [.int 9, .int 4]]]
theorem told_eq : told4 ++ told3 = dueL := by kernel_rfl
theorem due_ok : repOk (.lst dueL) = true := by decide +kernel
theorem p12_eq : powF 12 m2 r3 = .tup [.tup [.int 0, .int 1], .tup [.int 531441, .int 1]] := by kernel_rfl
theorem p12_ok : repOk (.tup [.tup [.int 0, .int 1], .tup [.int 531441, .int 1]]) = true := by decide +kernel
def due7 : List D := [.tup [.tup [.int 128, .int 1], .tup [.int 128, .int 1]], .tup [.tup [.int (-10000000000000), .int 1], .tup [.int 0, .int 1]]]
theorem due7_eq : [powF 7 r2 r2, minF 0 tn] = due7 := by kernel_rfl
theorem due7_ok : repOk (.lst due7) = true := by decide +kernel
section
variable {E : DEnds} {S : Store} {s c t o u wd un ze to du gr od wo ca ak ow : Option D}
theorem w1 (hn : E.nx (lv s c t o u (some wideD) (some unitD) (some zeroD) to du gr od wo ca ak ow) S) : fslaw_1 E (lv s c t o u wd un ze to du gr od wo ca ak ow) S := by
  have hs := sizeLine_eq
  have z1 : ∀ k : Nat, k ≤ 100 → k ≤ sizeLine := fun k h => by omega
  rw [wide_eq, unit_eq, zero_eq2] at hn
  simp [fslaw_1, lv, seqS, setS, retS, retN, exprS, nilS, ifS, parS, asgS, bindT, bindTs, bindF, callC, varF, retF, consF, nilF, iteV, truF, truD, notF, andF, orF, andV, orV, notV, chF, chT, bodyEnds, startE, optF, idxF, slcF, intF, noF, newL, tyD, isiT, isiB, lenB, absB, intB, gcdB, tupB, lstB, ltG, leG, gtG, geG, isG, isnG, o2I, isO, getS, addF, subF, mulF, eqG_ii, neG_ii, neG_bb, fdivG, modG, powG, raiseS, wipeE, z1] at hn ⊢
  exact hn
theorem w2 (hn : E.nx (lv s c t o u (some wideD) un (some zeroD) (some (.lst told4)) du gr od wo ca ak ow) S) : fslaw_2 cPowOf (cOne amoF) E (lv s c t o u (some wideD) un (some zeroD) to du gr od wo ca ak ow) S := by
  have hs := sizeLine_eq
  have z1 : ∀ k : Nat, k ≤ 100 → k ≤ sizeLine := fun k h => by omega
  simp [fslaw_2, lv, seqS, setS, retS, retN, exprS, nilS, ifS, parS, asgS, bindT, bindTs, bindF, callC, varF, retF, consF, nilF, iteV, truF, truD, notF, andF, orF, andV, orV, notV, chF, chT, bodyEnds, startE, optF, idxF, slcF, intF, noF, newL, tyD, isiT, isiB, lenB, absB, intB, gcdB, tupB, lstB, ltG, leG, gtG, geG, isG, isnG, o2I, isO, getS, addF, subF, mulF, eqG_ii, neG_ii, neG_bb, fdivG, modG, powG, raiseS, wipeE, z1]
  exact pow_call (k := 50) (n := 2) (by decide) (by decide) z_wp z_wq w_le (pow_call (k := 50) (n := 3) (by decide) (by decide) z_wp z_wq w_le (pow_call (k := 50) (n := 0) (by decide) (by decide) z_0 z_0 Rat.le_refl (one_call (k := 50) (by decide) z_wp z_wq w_le hn)))
theorem w3 (hn : E.nx (lv s c t o u (some wideD) (some unitD) (some zeroD) (some (.lst dueL)) du gr od wo ca ak ow) S) : fslaw_3 (cTwo quoF) (cTwo proF) E (lv s c t o u (some wideD) (some unitD) (some zeroD) (some (.lst told4)) du gr od wo ca ak ow) S := by
  have hs := sizeLine_eq
  have z1 : ∀ k : Nat, k ≤ 100 → k ≤ sizeLine := fun k h => by omega
  have hl : told4.length + 3 ≤ sizeLine := z1 _ (by decide)
  have hl3 : told4.length + told3.length ≤ sizeLine := z1 _ (by decide)
  rw [← told_eq] at hn
  simp [fslaw_3, lv, seqS, setS, retS, retN, exprS, nilS, ifS, parS, asgS, bindT, bindTs, bindF, callC, varF, retF, consF, nilF, iteV, truF, truD, notF, andF, orF, andV, orV, notV, chF, chT, bodyEnds, startE, optF, idxF, slcF, intF, noF, newL, tyD, isiT, isiB, lenB, absB, intB, gcdB, tupB, lstB, ltG, leG, gtG, geG, isG, isnG, o2I, isO, getS, addF, subF, mulF, eqG_ii, neG_ii, neG_bb, fdivG, modG, powG, raiseS, wipeE, z1]
  refine two_call (k := 50) (by decide) z_1 z_1 z_0 z_0 Rat.le_refl Rat.le_refl (two_call (k := 50) (by decide) z_0 z_0 z_1 z_1 Rat.le_refl Rat.le_refl (two_call (k := 50) (by decide) z_wp z_wq z_wp z_wq w_le w_le ?_))
  first | exact ⟨hl, hn⟩ | exact ⟨hl3, hn⟩ | exact hn
theorem w4 (hn : E.nx (lv s c t o u wd (some unitD) (some zeroD) to (some (.lst dueL)) gr od wo ca ak ow) S) : fslaw_4 E (lv s c t o u wd (some unitD) (some zeroD) to du gr od wo ca ak ow) S := by
  have hs := sizeLine_eq
  have z1 : ∀ k : Nat, k ≤ 100 → k ≤ sizeLine := fun k h => by omega
  unfold dueL at hn
  simp [fslaw_4, lv, seqS, setS, retS, retN, exprS, nilS, ifS, parS, asgS, bindT, bindTs, bindF, callC, varF, retF, consF, nilF, iteV, truF, truD, notF, andF, orF, andV, orV, notV, chF, chT, bodyEnds, startE, optF, idxF, slcF, intF, noF, newL, tyD, isiT, isiB, lenB, absB, intB, gcdB, tupB, lstB, ltG, leG, gtG, geG, isG, isnG, o2I, isO, getS, addF, subF, mulF, eqG_ii, neG_ii, neG_bb, fdivG, modG, powG, raiseS, wipeE, z1] at hn ⊢
  exact hn
theorem w5 (hn : E.nx (lv s c t o u wd un ze (some (.lst dueL)) (some (.lst dueL)) gr od wo ca ak ow) S) : fslaw_5 cSame cPowOf E (lv s c t o u wd un ze (some (.lst dueL)) (some (.lst dueL)) gr od wo ca ak ow) S := by
  have hs := sizeLine_eq
  have z1 : ∀ k : Nat, k ≤ 100 → k ≤ sizeLine := fun k h => by omega
  simp [fslaw_5, lv, seqS, setS, retS, retN, exprS, nilS, ifS, parS, asgS, bindT, bindTs, bindF, callC, varF, retF, consF, nilF, iteV, truF, truD, notF, andF, orF, andV, orV, notV, chF, chT, bodyEnds, startE, optF, idxF, slcF, intF, noF, newL, tyD, isiT, isiB, lenB, absB, intB, gcdB, tupB, lstB, ltG, leG, gtG, geG, isG, isnG, o2I, isO, getS, addF, subF, mulF, eqG_ii, neG_ii, neG_bb, fdivG, modG, powG, raiseS, wipeE, z1]
  refine ⟨_, rfl, due_ok, ?_⟩
  simp [seqS, setS, retS, retN, exprS, nilS, ifS, parS, asgS, bindT, bindTs, bindF, callC, varF, retF, consF, nilF, iteV, truF, truD, notF, andF, orF, andV, orV, notV, chF, chT, bodyEnds, startE, optF, idxF, slcF, intF, noF, newL, tyD, isiT, isiB, lenB, absB, intB, gcdB, tupB, lstB, ltG, leG, gtG, geG, isG, isnG, o2I, isO, getS, addF, subF, mulF, eqG_ii, neG_ii, neG_bb, fdivG, modG, powG, raiseS, wipeE, z1]
  rw [m23_eq]
  refine pow_call (k := 50) (n := 12) (by decide) (by decide) z_m2 z_r3 m_le ?_
  rw [p12_eq]
  refine ⟨_, rfl, p12_ok, ?_⟩
  simp [seqS, setS, retS, retN, exprS, nilS, ifS, parS, asgS, bindT, bindTs, bindF, callC, varF, retF, consF, nilF, iteV, truF, truD, notF, andF, orF, andV, orV, notV, chF, chT, bodyEnds, startE, optF, idxF, slcF, intF, noF, newL, tyD, isiT, isiB, lenB, absB, intB, gcdB, tupB, lstB, ltG, leG, gtG, geG, isG, isnG, o2I, isO, getS, addF, subF, mulF, eqG_ii, neG_ii, neG_bb, fdivG, modG, powG, raiseS, wipeE]
  exact hn
theorem w6 (hn : E.nx (lv s c t o u wd un ze to du (some greatD) od wo ca ak ow) S) : fslaw_6 E (lv s c t o u wd un ze to du gr od wo ca ak ow) S := by
  have hs := sizeLine_eq
  have z1 : ∀ k : Nat, k ≤ 100 → k ≤ sizeLine := fun k h => by omega
  rw [great_eq] at hn
  simp [fslaw_6, lv, seqS, setS, retS, retN, exprS, nilS, ifS, parS, asgS, bindT, bindTs, bindF, callC, varF, retF, consF, nilF, iteV, truF, truD, notF, andF, orF, andV, orV, notV, chF, chT, bodyEnds, startE, optF, idxF, slcF, intF, noF, newL, tyD, isiT, isiB, lenB, absB, intB, gcdB, tupB, lstB, ltG, leG, gtG, geG, isG, isnG, o2I, isO, getS, addF, subF, mulF, eqG_ii, neG_ii, neG_bb, fdivG, modG, powG, raiseS, wipeE, z1, p13] at hn ⊢
  exact hn
theorem w7 (hn : E.nx (lv s c t o u wd un ze to du (some greatD) od wo ca ak ow) S) : fslaw_7 cSame cPowOf (cOne minF) E (lv s c t o u wd un ze to du (some greatD) od wo ca ak ow) S := by
  have hs := sizeLine_eq
  have z1 : ∀ k : Nat, k ≤ 100 → k ≤ sizeLine := fun k h => by omega
  simp [fslaw_7, lv, seqS, setS, retS, retN, exprS, nilS, ifS, parS, asgS, bindT, bindTs, bindF, callC, varF, retF, consF, nilF, iteV, truF, truD, notF, andF, orF, andV, orV, notV, chF, chT, bodyEnds, startE, optF, idxF, slcF, intF, noF, newL, tyD, isiT, isiB, lenB, absB, intB, gcdB, tupB, lstB, ltG, leG, gtG, geG, isG, isnG, o2I, isO, getS, addF, subF, mulF, eqG_ii, neG_ii, neG_bb, fdivG, modG, powG, raiseS, wipeE, z1, p13]
  rw [two_eq]
  refine pow_call (k := 50) (n := 7) (by decide) (by decide) z_r2 z_r2 Rat.le_refl (one_call (k := 50) (by decide) z_0 z_tn g_le ?_)
  try simp [seqS, setS, retS, retN, exprS, nilS, ifS, parS, asgS, bindT, bindTs, bindF, callC, varF, retF, consF, nilF, iteV, truF, truD, notF, andF, orF, andV, orV, notV, chF, chT, bodyEnds, startE, optF, idxF, slcF, intF, noF, newL, tyD, isiT, isiB, lenB, absB, intB, gcdB, tupB, lstB, ltG, leG, gtG, geG, isG, isnG, o2I, isO, getS, addF, subF, mulF, eqG_ii, neG_ii, neG_bb, fdivG, modG, powG, raiseS, wipeE, z1, p13]
  refine ⟨.lst due7, by rw [due7_eq]; rfl, due7_ok, ?_⟩
  simp [seqS, setS, retS, retN, exprS, nilS, ifS, parS, asgS, bindT, bindTs, bindF, callC, varF, retF, consF, nilF, iteV, truF, truD, notF, andF, orF, andV, orV, notV, chF, chT, bodyEnds, startE, optF, idxF, slcF, intF, noF, newL, tyD, isiT, isiB, lenB, absB, intB, gcdB, tupB, lstB, ltG, leG, gtG, geG, isG, isnG, o2I, isO, getS, addF, subF, mulF, eqG_ii, neG_ii, neG_bb, fdivG, modG, powG, raiseS, wipeE]
  exact hn
theorem w8 (hn : E.nx (lv s c t o u wd un ze to du (some greatD) od wo ca ak ow) S) : fslaw_8 cTwoRight cOneRight E (lv s c t o u wd un ze to du (some greatD) od wo ca ak ow) S := by
  have hs := sizeLine_eq
  have z1 : ∀ k : Nat, k ≤ 100 → k ≤ sizeLine := fun k h => by omega
  simp [fslaw_8, lv, seqS, setS, retS, retN, exprS, nilS, ifS, parS, asgS, bindT, bindTs, bindF, callC, varF, retF, consF, nilF, iteV, truF, truD, notF, andF, orF, andV, orV, notV, chF, chT, bodyEnds, startE, optF, idxF, slcF, intF, noF, newL, tyD, isiT, isiB, lenB, absB, intB, gcdB, tupB, lstB, ltG, leG, gtG, geG, isG, isnG, o2I, isO, getS, addF, subF, mulF, eqG_ii, neG_ii, neG_bb, fdivG, modG, powG, raiseS, wipeE, z1, p13]
  rw [thin_eq]
  refine ⟨50, 0, tn, tv, r3, rfl, by decide, z_0, z_tn, z_tv, z_r3, g_le, v_le, ?_⟩
  simp [seqS, setS, retS, retN, exprS, nilS, ifS, parS, asgS, bindT, bindTs, bindF, callC, varF, retF, consF, nilF, iteV, truF, truD, notF, andF, orF, andV, orV, notV, chF, chT, bodyEnds, startE, optF, idxF, slcF, intF, noF, newL, tyD, isiT, isiB, lenB, absB, intB, gcdB, tupB, lstB, ltG, leG, gtG, geG, isG, isnG, o2I, isO, getS, addF, subF, mulF, eqG_ii, neG_ii, neG_bb, fdivG, modG, powG, raiseS, wipeE]
  refine ⟨50, 0, tn, 3, rfl, by decide, by decide, z_0, z_tn, g_le, ?_⟩
  simp [seqS, setS, retS, retN, exprS, nilS, ifS, parS, asgS, bindT, bindTs, bindF, callC, varF, retF, consF, nilF, iteV, truF, truD, notF, andF, orF, andV, orV, notV, chF, chT, bodyEnds, startE, optF, idxF, slcF, intF, noF, newL, tyD, isiT, isiB, lenB, absB, intB, gcdB, tupB, lstB, ltG, leG, gtG, geG, isG, isnG, o2I, isO, getS, addF, subF, mulF, eqG_ii, neG_ii, neG_bb, fdivG, modG, powG, raiseS, wipeE]
  exact hn
end
end LawX

set_option Elab.async false
set_option linter.all false
set_option maxRecDepth 100000
set_option maxHeartbeats 0
set_option exponentiation.threshold 5000
namespace LawX
open PySem PySem.Spec PyProof.Rows L2 Dx
def oddL : List D := [.non, .tup [], .tup [.int 1, .int 2], .tup [.tup [.int 1, .int 2], .tup [.int 1, .int 3]], .lst [.tup [.int 0, .int 1], .tup [.int 1, .int 1]], .tup [.tup [.int 0, .int 2], .tup [.int 1, .int 1]], .tup [.tup [.int 0, .int 1], .tup [.int 1, .int 0]], .tup [.tup [.bl true, .int 1], .tup [.int 2, .int 1]], .tup [.tup [.int 0, .int 1]]]
theorem odd_ok : ∀ d ∈ oddL, okD 5 d = true ∧ isStr d = false := by decide +kernel
theorem odd2 : Dx.cutD oddL none (some 2) = [.non, .tup []] := by kernel_rfl
theorem odd3 : Dx.cutD oddL none (some 3) = [.non, .tup [], .tup [.int 1, .int 2]] := by kernel_rfl
theorem unit_ok : okD 5 unitD = true ∧ isStr unitD = true := by rw [unit_eq]; decide +kernel
def tbL : List (Str × Ct) := [("sum_of", cTwo sumF), ("difference_of", cTwo difF), ("product_of", cTwo proF), ("quotient_of", cTwo quoF), ("least_of", cTwo leaF), ("most_of", cTwo mosF), ("minus_of", cOne minF), ("amount_of", cOne amoF)]
def twos : List D := [.gl "sum_of", .gl "difference_of", .gl "product_of", .gl "quotient_of", .gl "least_of", .gl "most_of"]
def ones : List D := [.gl "minus_of", .gl "amount_of"]
theorem twos_ok : ∀ d ∈ twos, ∃ y f, d = .gl y ∧ tbL.lookup y = some (cTwo f) := by
  intro d hd
  simp only [twos, List.mem_cons, List.not_mem_nil, or_false] at hd
  rcases hd with rfl | rfl | rfl | rfl | rfl | rfl
  · exact ⟨_, sumF, rfl, by kernel_rfl⟩
  · exact ⟨_, difF, rfl, by kernel_rfl⟩
  · exact ⟨_, proF, rfl, by kernel_rfl⟩
  · exact ⟨_, quoF, rfl, by kernel_rfl⟩
  · exact ⟨_, leaF, rfl, by kernel_rfl⟩
  · exact ⟨_, mosF, rfl, by kernel_rfl⟩
theorem ones_ok : ∀ d ∈ ones, ∃ y f, d = .gl y ∧ tbL.lookup y = some (cOne f) := by
  intro d hd
  simp only [ones, List.mem_cons, List.not_mem_nil, or_false] at hd
  rcases hd with rfl | rfl
  · exact ⟨_, minF, rfl, by kernel_rfl⟩
  · exact ⟨_, amoF, rfl, by kernel_rfl⟩
theorem odd_l {v : D} {f : Rat → Rat → Rat → Rat → D} {u : D} {S : Store} {Q : D → Store → Prop} {E : QX} (hv : okD 5 v = true ∧ isStr v = false) (hu : okD 5 u = true) (h : E ⟨"InvalidStretch", []⟩ S) : cTwo f [v, u] S Q E :=
  ⟨v, u, 5, rfl, hv.1, hu, fun _ => h, fun z => (by rw [hv.2] at z; cases z), fun z => (by rw [hv.2] at z; cases z)⟩
theorem odd_r {v : D} {f : Rat → Rat → Rat → Rat → D} {u : D} {S : Store} {Q : D → Store → Prop} {E : QX} (hv : okD 5 v = true ∧ isStr v = true) (hu : okD 5 u = true ∧ isStr u = false) (h : E ⟨"InvalidStretch", []⟩ S) : cTwo f [v, u] S Q E :=
  ⟨v, u, 5, rfl, hv.1, hu.1, fun _ => h, fun _ _ => h, fun _ z => (by rw [hu.2] at z; cases z)⟩
theorem odd_1 {v : D} {f : Rat → Rat → D} {S : Store} {Q : D → Store → Prop} {E : QX} (hv : okD 5 v = true ∧ isStr v = false) (h : E ⟨"InvalidStretch", []⟩ S) : cOne f [v] S Q E :=
  ⟨v, 5, rfl, hv.1, fun _ => h, fun z => (by rw [hv.2] at z; cases z)⟩
theorem odd_p {v u : D} {S : Store} {Q : D → Store → Prop} {E : QX} (hv : okD 5 v = true ∧ isStr v = false) (hu : datD u = true) (h : E ⟨"InvalidStretch", []⟩ S) : cPowOf [v, u] S Q E :=
  ⟨v, u, 5, rfl, hv.1, hu, fun _ => h, fun z => (by rw [hv.2] at z; cases z), fun z => (by rw [hv.2] at z; cases z)⟩
theorem odd_n {v u : D} {S : Store} {Q : D → Store → Prop} {E : QX} (hv : okD 5 v = true ∧ isStr v = true) (hu : datD u = true ∧ wholeB u 0 12 = false) (h : E ⟨"InvalidNumber", []⟩ S) : cPowOf [v, u] S Q E :=
  ⟨v, u, 5, rfl, hv.1, hu.1, fun z => (by rw [hv.2] at z; cases z), fun _ _ => h, fun _ z => (by rw [hu.2] at z; cases z)⟩
theorem many_ok : ∀ d ∈ ([.non, .int (-1), .int 13, .bl true] : List D), datD d = true ∧ wholeB d 0 12 = false := by decide +kernel
section
variable {E : DEnds} {S : Store} {s c t o u wd un ze to du gr od wo ca ak ow : Option D}
theorem w9 (hn : E.nx (lv s c t o u wd un ze to du gr (some (.lst oddL)) wo ca ak ow) S) : fslaw_9 E (lv s c t o u wd un ze to du gr od wo ca ak ow) S := by
  have hs := sizeLine_eq
  have z1 : ∀ k : Nat, k ≤ 100 → k ≤ sizeLine := fun k h => by omega
  unfold oddL at hn
  simp [fslaw_9, lv, seqS, setS, retS, retN, exprS, nilS, ifS, parS, asgS, bindT, bindTs, bindF, callC, varF, retF, consF, nilF, iteV, truF, truD, notF, andF, orF, andV, orV, notV, chF, chT, bodyEnds, startE, optF, idxF, slcF, intF, noF, newL, tyD, isiT, isiB, lenB, absB, intB, gcdB, tupB, lstB, ltG, leG, gtG, geG, isG, isnG, o2I, isO, getS, addF, subF, mulF, eqG_ii, neG_ii, neG_bb, fdivG, modG, powG, raiseS, wipeE, z1] at hn ⊢
  exact hn
/-- a list of words grows by those of a comprehension over ds -/
theorem words {R : List D} {ds : List D} {w : D} {fi : FG Its'} {fe : F} {τ : Dx.Env} {Q : D → Store → Prop} {X : QX} (hw : τ[12]? = some (some (.lst R))) (hl : R.length + ds.length ≤ 100) (hi : ∀ (Q : Its' → Store → Prop), Q (ds, fun _ => True) S → fi τ S Q X)
    (he : ∀ d ∈ ds, ∃ τ', bindT (.name 15) d (wipeE τ [15]) = some τ' ∧ ∀ Q : D → Store → Prop, Q w S → fe τ' S Q noX) (hq : Q (.lst (R ++ rep ds.length w)) S) :
    binE (addF false) (varF 12) (compF false fi (.name 15) (retF true) fe ([("own", 15)].map (·.2))) τ S Q X := by
  have hs := sizeLine_eq
  simp only [binE, bindF, varF, hw]
  refine compF_val ds (fun _ => True) (fun _ => true) (fun _ => w) hi trivial (by omega) (fun d hd => ?_) ?_
  · obtain ⟨τ', h1, h2⟩ := he d hd
    exact ⟨τ', h1, fun Q h => h, fun _ Q h => h2 Q h⟩
  · rw [map_all]
    simp only [addF, getS, newL]
    exact ⟨by rw [rep_len]; omega, hq⟩
theorem step10 {y : Str} {f : Rat → Rat → Rat → Rat → D} {n : Nat} (hy : tbL.lookup y = some (cTwo f)) (hn : n ≤ 80) (h : E.nx (lv s c t o u wd (some unitD) ze to du gr (some (.lst oddL)) (some (.lst (rep (n + 11) sW))) (some (.gl y)) ak ow) S) :
    seqS (setS 12 (binE (addF false) (varF 12) (compF false (itE (slcE false (varF 11) noF (someI (int! 2)))) (.name 15) (retF true) (lamF w_law_error "" (vcallE tbL 13 (consF (varF 15) (consF non! nilF)))) ([("own", 15)].map (·.2)))))
    (setS 12 (binE (addF false) (varF 12) (compF false (itE (varF 11)) (.name 15) (retF true) (lamF w_law_error "" (vcallE tbL 13 (consF (varF 6) (consF (varF 15) nilF)))) ([("own", 15)].map (·.2))))) E
      (lv s c t o u wd (some unitD) ze to du gr (some (.lst oddL)) (some (.lst (rep n sW))) (some (.gl y)) ak ow) S := by
  have hs := sizeLine_eq
  have hlen : ([.non, .tup []] : List D).length = 2 := rfl
  have olen : oddL.length = 9 := rfl
  have c1 : Dx.cutD oddL none (some 2) = [.non, .tup []] := odd2
  simp only [seqS, setS]
  refine words (R := rep n sW) (ds := [.non, .tup []]) (w := sW) rfl (by rw [rep_len, hlen]; omega) (fun Q h => ?_) (fun d hd => ⟨_, rfl, fun Q h => ?_⟩) ?_
  · simp only [lv, itE, itsF, slcE, bindF, varF, noF, someI, retF, intF, List.getElem?_cons_succ, List.getElem?_cons_zero, slcF, getS, newL]
    rw [c1]
    exact h
  · have hd2 : d ∈ oddL := by
      simp only [List.mem_cons, List.not_mem_nil, or_false] at hd
      rcases hd with rfl | rfl <;> simp [oddL]
    simp [lv, lamF, vcallE, hy, callE, seqS, setS, retS, retN, exprS, nilS, ifS, parS, asgS, bindT, bindTs, bindF, callC, varF, retF, consF, nilF, iteV, truF, truD, notF, andF, orF, andV, orV, notV, chF, chT, bodyEnds, startE, optF, idxF, slcF, intF, noF, newL, tyD, isiT, isiB, lenB, absB, intB, gcdB, tupB, lstB, ltG, leG, gtG, geG, isG, isnG, o2I, isO, getS, addF, subF, mulF, eqG_ii, neG_ii, neG_bb, fdivG, modG, powG, raiseS, wipeE]
    refine odd_l (odd_ok d hd2) rfl ?_
    simp [w_str]
    exact h
  · rw [hlen, rep_add]
    show binE _ _ _ (lv s c t o u wd (some unitD) ze to du gr (some (.lst oddL)) (some (.lst (rep (n + 2) sW))) (some (.gl y)) ak ow) _ _ _
    refine words (R := rep (n + 2) sW) (ds := oddL) (w := sW) rfl (by rw [rep_len, olen]; omega) (fun Q h => ?_) (fun d hd => ⟨_, rfl, fun Q h => ?_⟩) ?_
    · simp only [lv, itE, itsF, bindF, varF, List.getElem?_cons_succ, List.getElem?_cons_zero, getS]
      exact h
    · simp [lv, lamF, vcallE, hy, callE, seqS, setS, retS, retN, exprS, nilS, ifS, parS, asgS, bindT, bindTs, bindF, callC, varF, retF, consF, nilF, iteV, truF, truD, notF, andF, orF, andV, orV, notV, chF, chT, bodyEnds, startE, optF, idxF, slcF, intF, noF, newL, tyD, isiT, isiB, lenB, absB, intB, gcdB, tupB, lstB, ltG, leG, gtG, geG, isG, isnG, o2I, isO, getS, addF, subF, mulF, eqG_ii, neG_ii, neG_bb, fdivG, modG, powG, raiseS, wipeE]
      refine odd_r unit_ok (odd_ok d hd) ?_
      simp [w_str]
      exact h
    · rw [olen, rep_add]
      exact h
theorem step11 {y : Str} {f : Rat → Rat → D} {n : Nat} (hy : tbL.lookup y = some (cOne f)) (hn : n ≤ 80) (h : E.nx (lv s c t o u wd un ze to du gr (some (.lst oddL)) (some (.lst (rep (n + 9) sW))) ca (some (.gl y)) ow) S) :
    setS 12 (binE (addF false) (varF 12) (compF false (itE (varF 11)) (.name 15) (retF true) (lamF w_law_error "" (vcallE tbL 14 (consF (varF 15) nilF))) ([("own", 15)].map (·.2)))) E
      (lv s c t o u wd un ze to du gr (some (.lst oddL)) (some (.lst (rep n sW))) ca (some (.gl y)) ow) S := by
  have olen : oddL.length = 9 := rfl
  simp only [setS]
  refine words (R := rep n sW) (ds := oddL) (w := sW) rfl (by rw [rep_len, olen]; omega) (fun Q h => ?_) (fun d hd => ⟨_, rfl, fun Q h => ?_⟩) ?_
  · simp only [lv, itE, itsF, bindF, varF, List.getElem?_cons_succ, List.getElem?_cons_zero, getS]
    exact h
  · simp [lv, lamF, vcallE, hy, callE, seqS, setS, retS, retN, exprS, nilS, ifS, parS, asgS, bindT, bindTs, bindF, callC, varF, retF, consF, nilF, iteV, truF, truD, notF, andF, orF, andV, orV, notV, chF, chT, bodyEnds, startE, optF, idxF, slcF, intF, noF, newL, tyD, isiT, isiB, lenB, absB, intB, gcdB, tupB, lstB, ltG, leG, gtG, geG, isG, isnG, o2I, isO, getS, addF, subF, mulF, eqG_ii, neG_ii, neG_bb, fdivG, modG, powG, raiseS, wipeE]
    refine odd_1 (odd_ok d hd) ?_
    simp [w_str]
    exact h
  · rw [olen, rep_add]
    exact h
theorem w10 (hn : ∀ ca, E.nx (lv s c t o u wd (some unitD) ze to du gr (some (.lst oddL)) (some (.lst (rep 66 sW))) ca ak ow) S) : fslaw_10 tbL E (lv s c t o u wd (some unitD) ze to du gr (some (.lst oddL)) (some (.lst [])) ca ak ow) S := by
  have hs := sizeLine_eq
  have z1 : ∀ k : Nat, k ≤ 100 → k ≤ sizeLine := fun k h => by omega
  unfold fslaw_10 forS
  simp [itE, itsF, seqS, setS, retS, retN, exprS, nilS, ifS, parS, asgS, bindT, bindTs, bindF, callC, varF, retF, consF, nilF, iteV, truF, truD, notF, andF, orF, andV, orV, notV, chF, chT, bodyEnds, startE, optF, idxF, slcF, intF, noF, newL, tyD, isiT, isiB, lenB, absB, intB, gcdB, tupB, lstB, ltG, leG, gtG, geG, isG, isnG, o2I, isO, getS, addF, subF, mulF, eqG_ii, neG_ii, neG_bb, fdivG, modG, powG, raiseS, wipeE, z1]
  refine forL_inv (I := fun i τ S' => S' = S ∧ ∃ ca, τ = lv s c t o u wd (some unitD) ze to du gr (some (.lst oddL)) (some (.lst (rep (11 * i) sW))) ca ak ow) twos 0 ⟨rfl, ca, rfl⟩ ?_ ?_
  · rintro j d hd τ S' K ⟨rfl, ca, rfl⟩ hK
    have hj : j < 6 := (List.getElem?_eq_some_iff.mp hd).1
    obtain ⟨y, f, rfl, hy⟩ := twos_ok d (List.mem_of_getElem? hd)
    refine ⟨trivial, _, rfl, ?_⟩
    simp only [Nat.zero_add] at hK ⊢
    exact step10 (n := 11 * j) hy (by omega) (hK _ _ ⟨rfl, some (.gl y), rfl⟩)
  · rintro τ S' ⟨rfl, ca, rfl⟩
    exact ⟨trivial, hn ca⟩
theorem w11 (hn : ∀ ak, E.nx (lv s c t o u wd un ze to du gr (some (.lst oddL)) (some (.lst (rep 84 sW))) ca ak ow) S) : fslaw_11 tbL E (lv s c t o u wd un ze to du gr (some (.lst oddL)) (some (.lst (rep 66 sW))) ca ak ow) S := by
  have hs := sizeLine_eq
  have z1 : ∀ k : Nat, k ≤ 100 → k ≤ sizeLine := fun k h => by omega
  unfold fslaw_11 forS
  simp [itE, itsF, seqS, setS, retS, retN, exprS, nilS, ifS, parS, asgS, bindT, bindTs, bindF, callC, varF, retF, consF, nilF, iteV, truF, truD, notF, andF, orF, andV, orV, notV, chF, chT, bodyEnds, startE, optF, idxF, slcF, intF, noF, newL, tyD, isiT, isiB, lenB, absB, intB, gcdB, tupB, lstB, ltG, leG, gtG, geG, isG, isnG, o2I, isO, getS, addF, subF, mulF, eqG_ii, neG_ii, neG_bb, fdivG, modG, powG, raiseS, wipeE, z1]
  refine forL_inv (I := fun i τ S' => S' = S ∧ ∃ ak, τ = lv s c t o u wd un ze to du gr (some (.lst oddL)) (some (.lst (rep (66 + 9 * i) sW))) ca ak ow) ones 0 ⟨rfl, ak, rfl⟩ ?_ ?_
  · rintro j d hd τ S' K ⟨rfl, ak, rfl⟩ hK
    have hj : j < 2 := (List.getElem?_eq_some_iff.mp hd).1
    obtain ⟨y, f, rfl, hy⟩ := ones_ok d (List.mem_of_getElem? hd)
    refine ⟨trivial, _, rfl, ?_⟩
    simp only [Nat.zero_add] at hK ⊢
    exact step11 (n := 66 + 9 * j) hy (by omega) (hK _ _ ⟨rfl, some (.gl y), rfl⟩)
  · rintro τ S' ⟨rfl, ak, rfl⟩
    exact ⟨trivial, hn ak⟩
theorem w12 (hn : E.nx (lv s c t o u wd un ze to du gr (some (.lst oddL)) (some (.lst (rep 87 sW))) ca ak ow) S) : fslaw_12 cPowOf E (lv s c t o u wd un ze to du gr (some (.lst oddL)) (some (.lst (rep 84 sW))) ca ak ow) S := by
  have hlen : ([.non, .tup [], .tup [.int 1, .int 2]] : List D).length = 3 := rfl
  have c1 := odd3
  simp only [fslaw_12, setS]
  refine words (R := rep 84 sW) (ds := [.non, .tup [], .tup [.int 1, .int 2]]) (w := sW) rfl (by rw [rep_len, hlen]; omega) (fun Q h => ?_) (fun d hd => ⟨_, rfl, fun Q h => ?_⟩) ?_
  · simp only [lv, itE, itsF, slcE, bindF, varF, noF, someI, retF, intF, List.getElem?_cons_succ, List.getElem?_cons_zero, slcF, getS, newL]
    rw [c1]
    exact h
  · have hd2 : d ∈ oddL := by
      simp only [List.mem_cons, List.not_mem_nil, or_false] at hd
      rcases hd with rfl | rfl | rfl <;> simp [oddL]
    simp [lv, lamF, callE, seqS, setS, retS, retN, exprS, nilS, ifS, parS, asgS, bindT, bindTs, bindF, callC, varF, retF, consF, nilF, iteV, truF, truD, notF, andF, orF, andV, orV, notV, chF, chT, bodyEnds, startE, optF, idxF, slcF, intF, noF, newL, tyD, isiT, isiB, lenB, absB, intB, gcdB, tupB, lstB, ltG, leG, gtG, geG, isG, isnG, o2I, isO, getS, addF, subF, mulF, eqG_ii, neG_ii, neG_bb, fdivG, modG, powG, raiseS, wipeE]
    refine odd_p (odd_ok d hd2) rfl ?_
    simp [w_str]
    exact h
  · rw [hlen, rep_add]
    exact hn
theorem w13 {R : List D} (hR : R.length ≤ 90) (hn : E.nx (lv s c t o u wd (some unitD) ze to du gr od (some (.lst (R ++ rep 4 nW))) ca ak ow) S) : fslaw_13 cPowOf E (lv s c t o u wd (some unitD) ze to du gr od (some (.lst R)) ca ak ow) S := by
  have hs := sizeLine_eq
  have z1 : ∀ k : Nat, k ≤ 100 → k ≤ sizeLine := fun k h => by omega
  have hlen : ([.non, .int (-1), .int 13, .bl true] : List D).length = 4 := rfl
  simp only [fslaw_13, setS]
  refine words (R := R) (ds := [.non, .int (-1), .int 13, .bl true]) (w := nW) rfl (by rw [hlen]; omega) (fun Q h => ?_) (fun d hd => ⟨_, rfl, fun Q h => ?_⟩) ?_
  · simp [lv, itE, itsF, seqS, setS, retS, retN, exprS, nilS, ifS, parS, asgS, bindT, bindTs, bindF, callC, varF, retF, consF, nilF, iteV, truF, truD, notF, andF, orF, andV, orV, notV, chF, chT, bodyEnds, startE, optF, idxF, slcF, intF, noF, newL, tyD, isiT, isiB, lenB, absB, intB, gcdB, tupB, lstB, ltG, leG, gtG, geG, isG, isnG, o2I, isO, getS, addF, subF, mulF, eqG_ii, neG_ii, neG_bb, fdivG, modG, powG, raiseS, wipeE, z1]
    exact h
  · simp [lv, lamF, callE, seqS, setS, retS, retN, exprS, nilS, ifS, parS, asgS, bindT, bindTs, bindF, callC, varF, retF, consF, nilF, iteV, truF, truD, notF, andF, orF, andV, orV, notV, chF, chT, bodyEnds, startE, optF, idxF, slcF, intF, noF, newL, tyD, isiT, isiB, lenB, absB, intB, gcdB, tupB, lstB, ltG, leG, gtG, geG, isG, isnG, o2I, isO, getS, addF, subF, mulF, eqG_ii, neG_ii, neG_bb, fdivG, modG, powG, raiseS, wipeE]
    refine odd_n unit_ok (many_ok d hd) ?_
    simp [w_num]
    exact h
  · rw [hlen]
    exact hn
theorem rep1 {w : D} {k : Int} {n : Nat} {τ : Dx.Env} {S : Store} {Q : D → Store → Prop} {E : QX} (hk : k = (n : Int)) (hn : n ≤ 100) (q : Q (.lst (rep n w)) S) : mulF false (.lst [w]) (.int k) τ S Q E := by
  have hs := sizeLine_eq
  subst hk
  have e : (List.replicate n [w]).flatten = rep n w := by
    clear q hn
    unfold rep
    induction n with
    | zero => rfl
    | succ n ih => rw [List.replicate_succ, List.flatten_cons, ih, List.replicate_succ]; rfl
  simp only [mulF, getS, newL, Int.toNat_natCast, e]
  refine ⟨⟨by omega, by omega, ?_⟩, q⟩
  show 1 * n ≤ sizeLine
  omega
theorem lst1 {w : D} {τ : Dx.Env} {S : Store} {Q : D → Store → Prop} {E : QX} (q : Q (.lst [w]) S) : [w].length ≤ sizeLine ∧ newL false [w] τ S Q E := by
  have hs := sizeLine_eq
  have e : [w].length = 1 := rfl
  exact ⟨by rw [e]; omega, q⟩
theorem k87 {τ : Dx.Env} {S : Store} {Q : D → Store → Prop} {E : QX} (h : τ[11]? = some (some (.lst oddL))) (q : Q (.int 87) S) : binE (addF false) (binE (addF false) (int! 12) (binE (mulF false) (int! 8) (biE lenB (consF (varF 11) nilF)))) (int! 3) τ S Q E := by
  have olen : oddL.length = 9 := rfl
  have c : cMul 8 9 = true := by decide
  simp [seqS, setS, retS, retN, exprS, nilS, ifS, parS, asgS, bindT, bindTs, bindF, callC, varF, retF, consF, nilF, iteV, truF, truD, notF, andF, orF, andV, orV, notV, chF, chT, bodyEnds, startE, optF, idxF, slcF, intF, noF, newL, tyD, isiT, isiB, lenB, absB, intB, gcdB, tupB, lstB, ltG, leG, gtG, geG, isG, isnG, o2I, isO, getS, addF, subF, mulF, eqG_ii, neG_ii, neG_bb, fdivG, modG, powG, raiseS, wipeE, h, olen, c]
  exact q
theorem bin_var {i : Nat} {d : D} {f : D → D → F} {b : F} {τ : Dx.Env} {S : Store} {Q : D → Store → Prop} {E : QX} (h : τ[i]? = some (some d)) (q : b τ S (fun y S1 => f d y τ S1 Q E) E) : binE f (varF i) b τ S Q E := by
  simp only [binE, bindF, varF, h]
  exact q
theorem bin_rep {n : Nat} {w : D} {k : F} {τ : Dx.Env} {S : Store} {Q : D → Store → Prop} {E : QX} (hk : ∀ Q : D → Store → Prop, Q (.int (n : Int)) S → k τ S Q E) (hn : n ≤ 100) (q : Q (.lst (rep n w)) S) : binE (mulF false) (lstE false (consF (retF w) nilF)) k τ S Q E := by
  simp only [binE, bindF, consF, nilF, retF]
  exact lst1 (hk _ (rep1 rfl hn q))
theorem bin_add {x y : List D} {a b : F} {τ : Dx.Env} {S : Store} {Q : D → Store → Prop} {E : QX} (ha : ∀ Q : D → Store → Prop, Q (.lst x) S → a τ S Q E) (hb : ∀ Q : D → Store → Prop, Q (.lst y) S → b τ S Q E) (hl : x.length + y.length ≤ 100) (q : Q (.lst (x ++ y)) S) : binE (addF false) a b τ S Q E := by
  have hs := sizeLine_eq
  simp only [binE, bindF]
  refine ha _ (hb _ ?_)
  simp only [addF, getS, newL]
  exact ⟨by omega, q⟩
theorem eq_self {L : List D} {τ : Dx.Env} {S : Store} {Q : D → Store → Prop} {E : QX} (h1 : datD (.lst L) = true) (h2 : depD (.lst L) ≤ 64) (h3 : eqD (.lst L) (.lst L) = true) (q : Q (.bl true) S) : eqG (.lst L) (.lst L) τ S Q E :=
  eqG_of h1 h1 h2 h2 (by rw [h3]; exact q)
def wordsL : List D := rep 87 sW ++ rep 4 nW
theorem words_ok : datD (.lst wordsL) = true ∧ decide (depD (.lst wordsL) ≤ 64) = true ∧ eqD (.lst wordsL) (.lst wordsL) = true := by decide +kernel
theorem w14 {Q : D → Store → Prop} (he : E.rt = Q) (hq : Q (.bl true) S) : fslaw_14 E (lv s c t o u wd un ze to du gr (some (.lst oddL)) (some (.lst wordsL)) ca ak ow) S := by
  unfold fslaw_14 retS
  refine bin_var rfl (bin_add (x := rep 87 sW) (y := rep 4 nW) (fun Q h => bin_rep (n := 87) (fun Q h => k87 rfl h) (by decide) h) (fun Q h => bin_rep (n := 4) (fun Q h => h) (by decide) h) (by rw [rep_len, rep_len]; decide) ?_)
  have hw := words_ok
  show eqG (.lst wordsL) (.lst wordsL) _ _ _ _
  refine eq_self hw.1 (of_decide_eq_true hw.2.1) hw.2.2 ?_
  rw [he]
  exact hq
theorem w0 (hc : Cup 0 S) (hn : ∀ S' t o u, E.nx (lv s (some (.obj 0)) t o u wd un ze to du gr od wo ca ak ow) S') : fslaw_0 cLStr cTwoRight cOneRight cRoll E (lv s (some (.obj 0)) t o u wd un ze to du gr od wo ca ak ow) S := by
  unfold fslaw_0 forS
  simp [seqS, setS, retS, retN, exprS, nilS, ifS, parS, asgS, bindT, bindTs, bindF, callC, varF, retF, consF, nilF, iteV, truF, truD, notF, andF, orF, andV, orV, notV, chF, chT, bodyEnds, startE, optF, idxF, slcF, intF, noF, newL, tyD, isiT, isiB, lenB, absB, intB, gcdB, tupB, lstB, ltG, leG, gtG, geG, isG, isnG, o2I, isO, getS, addF, subF, mulF, eqG_ii, neG_ii, neG_bb, fdivG, modG, powG, raiseS, wipeE, rng1]
  refine ⟨by decide, ?_⟩
  refine forL_inv (I := fun i τ S' => Cup 0 S' ∧ ∃ t o u, τ = lv s (some (.obj 0)) t o u wd un ze to du gr od wo ca ak ow) _ 0 ⟨hc, t, o, u, rfl⟩ ?_ ?_
  · rintro j d hd τ S1 K ⟨c1, t, o, u, rfl⟩ hK
    refine ⟨trivial, _, rfl, ?_⟩
    simp [lv, seqS, setS, retS, retN, exprS, nilS, ifS, parS, asgS, bindT, bindTs, bindF, callC, varF, retF, consF, nilF, iteV, truF, truD, notF, andF, orF, andV, orV, notV, chF, chT, bodyEnds, startE, optF, idxF, slcF, intF, noF, newL, tyD, isiT, isiB, lenB, absB, intB, gcdB, tupB, lstB, ltG, leG, gtG, geG, isG, isnG, o2I, isO, getS, addF, subF, mulF, eqG_ii, neG_ii, neG_bb, fdivG, modG, powG, raiseS, wipeE]
    refine ⟨0, rfl, c1, fun p q S2 zp zq pq r2 => ⟨0, rfl, r2.cup, fun r s' S3 zr zs rs r3 => ?_⟩⟩
    simp [seqS, setS, retS, retN, exprS, nilS, ifS, parS, asgS, bindT, bindTs, bindF, callC, varF, retF, consF, nilF, iteV, truF, truD, notF, andF, orF, andV, orV, notV, chF, chT, bodyEnds, startE, optF, idxF, slcF, intF, noF, newL, tyD, isiT, isiB, lenB, absB, intB, gcdB, tupB, lstB, ltG, leG, gtG, geG, isG, isnG, o2I, isO, getS, addF, subF, mulF, eqG_ii, neG_ii, neG_bb, fdivG, modG, powG, raiseS, wipeE]
    refine ⟨11, p, q, r, s', rfl, by omega, zp, zq, zr, zs, pq, rs, ?_⟩
    simp [seqS, setS, retS, retN, exprS, nilS, ifS, parS, asgS, bindT, bindTs, bindF, callC, varF, retF, consF, nilF, iteV, truF, truD, notF, andF, orF, andV, orV, notV, chF, chT, bodyEnds, startE, optF, idxF, slcF, intF, noF, newL, tyD, isiT, isiB, lenB, absB, intB, gcdB, tupB, lstB, ltG, leG, gtG, geG, isG, isnG, o2I, isO, getS, addF, subF, mulF, eqG_ii, neG_ii, neG_bb, fdivG, modG, powG, raiseS, wipeE]
    refine ⟨0, 13, rfl, r3.cup, by decide, big4 (by decide), fun k S4 a1 a2 r4 => ?_⟩
    obtain ⟨n, rfl⟩ : ∃ n : Nat, k = n := ⟨k.toNat, by omega⟩
    refine ⟨11, p, q, n, rfl, by omega, by omega, zp, zq, pq, ?_⟩
    simp [seqS, setS, retS, retN, exprS, nilS, ifS, parS, asgS, bindT, bindTs, bindF, callC, varF, retF, consF, nilF, iteV, truF, truD, notF, andF, orF, andV, orV, notV, chF, chT, bodyEnds, startE, optF, idxF, slcF, intF, noF, newL, tyD, isiT, isiB, lenB, absB, intB, gcdB, tupB, lstB, ltG, leG, gtG, geG, isG, isnG, o2I, isO, getS, addF, subF, mulF, eqG_ii, neG_ii, neG_bb, fdivG, modG, powG, raiseS, wipeE]
    refine ⟨11, r, s', 2, rfl, by omega, by omega, zr, zs, rs, ?_⟩
    simp [seqS, setS, retS, retN, exprS, nilS, ifS, parS, asgS, bindT, bindTs, bindF, callC, varF, retF, consF, nilF, iteV, truF, truD, notF, andF, orF, andV, orV, notV, chF, chT, bodyEnds, startE, optF, idxF, slcF, intF, noF, newL, tyD, isiT, isiB, lenB, absB, intB, gcdB, tupB, lstB, ltG, leG, gtG, geG, isG, isnG, o2I, isO, getS, addF, subF, mulF, eqG_ii, neG_ii, neG_bb, fdivG, modG, powG, raiseS, wipeE]
    exact hK _ _ ⟨r4.cup, some d, some (stD p q), some (stD r s'), rfl⟩
  · rintro τ S' ⟨c1, t, o, u, rfl⟩
    exact ⟨trivial, hn _ _ _ _⟩
end
def cLaw : Ct := fun ds S Q _ => ∃ ns, ds = [.lst (scr ns)] ∧ ns.length ≤ 63 ∧ S = [] ∧ ∀ S', Q (.bl true) S'
section
variable {E : DEnds} {S : Store} {s c t o u wd un ze to du gr od wo ca ak ow : Option D}
theorem tB {Q : D → Store → Prop} (he : E.rt = Q) (hq : ∀ S, Q (.bl true) S) :
    seqS fslaw_9 (seqS (setS 12 (lstE false nilF)) (seqS (fslaw_10 tbL) (seqS (fslaw_11 tbL) (seqS (fslaw_12 cPowOf) (seqS (fslaw_13 cPowOf) fslaw_14))))) E (lv s c t o u wd (some unitD) ze to du gr od wo ca ak ow) S := by
  have hs := sizeLine_eq
  refine w9 (E := _) ?_
  have z0 : ([] : List D).length ≤ sizeLine := Nat.zero_le _
  have step : ∀ {R : FS}, R E (lv s c t o u wd (some unitD) ze to du gr (some (.lst oddL)) (some (.lst [])) ca ak ow) S → seqS (setS 12 (lstE false nilF)) R E (lv s c t o u wd (some unitD) ze to du gr (some (.lst oddL)) wo ca ak ow) S := fun h => ⟨z0, h⟩
  refine step (w10 (E := _) fun ca => w11 (E := _) fun ak => w12 (E := _) (w13 (E := _) (by rw [rep_len]; decide) ?_))
  exact w14 he (hq _)
theorem tA {Q : D → Store → Prop} {R : FS} (hR : ∀ to du gr, R E (lv s c t o u (some wideD) (some unitD) (some zeroD) to du gr od wo ca ak ow) S) :
    seqS fslaw_1 (seqS (fslaw_2 cPowOf (cOne amoF)) (seqS (fslaw_3 (cTwo quoF) (cTwo proF)) (seqS fslaw_4 (seqS (fslaw_5 cSame cPowOf) (seqS fslaw_6 (seqS (fslaw_7 cSame cPowOf (cOne minF)) (seqS (fslaw_8 cTwoRight cOneRight) R))))))) E (lv s c t o u wd un ze to du gr od wo ca ak ow) S :=
  w1 (E := _) (w2 (E := _) (w3 (E := _) (w4 (E := _) (w5 (E := _) (w6 (E := _) (w7 (E := _) (w8 (E := _) (hR _ _ _))))))))
end
theorem law_ok (ds : List D) (S : Store) (Q : D → Store → Prop) (E : QX) (h : cLaw ds S Q E) : fslaw tbL cLCup cLStr cTwoRight cOneRight cRoll (cOne amoF) cPowOf (cTwo proF) (cTwo quoF) cSame (cOne minF) (bodyEnds Q E) (startE Nlaw ds) S := by
  obtain ⟨ns, rfl, hl, rfl, hq⟩ := h
  unfold fslaw
  refine ⟨ns, rfl, hl, rfl, fun a b => ?_⟩
  refine w0 (E := _) ⟨a, b, rfl⟩ fun S1 t o u => ?_
  exact tA (Q := Q) fun to du gr => tB rfl hq
end LawX

set_option Elab.async false
set_option linter.all false
set_option maxRecDepth 100000
set_option maxHeartbeats 0
set_option exponentiation.threshold 5000
namespace LawX
open PySem PySem.Spec PyProof.Rows L2 Dx
theorem made_imp {ds : List D} {S : Store} {Q : D → Store → Prop} {E : QX} (h : cMade ds S Q E) : cMadeQ ds S Q E := by
  obtain ⟨a, b, rfl, h0, hb, hq⟩ := h
  have e2 : ((2 ^ 4000 : Nat) : Int) = 2 ^ 4000 := by simp
  refine ⟨a, b, rfl, by omega, by omega, ?_⟩
  rw [qz_pos h0, ← madeD_rat h0]
  exact hq
theorem plus_okR (ds : List D) (S : Store) (Q : D → Store → Prop) (E : QX) (h : cPlusR ds S Q E) : fsplus cMade (bodyEnds Q E) (startE Nplus ds) S := plus_ok ds S Q E (plus_imp h)
theorem times_okR (ds : List D) (S : Store) (Q : D → Store → Prop) (E : QX) (h : cTimesR ds S Q E) : fstimes cMade (bodyEnds Q E) (startE Ntimes ds) S := times_ok ds S Q E (times_imp h)
theorem lplus_okR (ds : List D) (S : Store) (Q : D → Store → Prop) (E : QX) (h : cPlusR ds S Q E) : fs_law_plus cMade (bodyEnds Q E) (startE N_law_plus ds) S := lplus_ok ds S Q E (plus_imp h)
theorem ltimes_okR (ds : List D) (S : Store) (Q : D → Store → Prop) (E : QX) (h : cTimesR ds S Q E) : fs_law_times cMade (bodyEnds Q E) (startE N_law_times ds) S := ltimes_ok ds S Q E (times_imp h)
end LawX

set_option Elab.async false
set_option linter.all false
set_option maxRecDepth 100000
set_option maxHeartbeats 0
namespace LawX
open PySem PySem.Spec PyProof.Rows L2 Dx
theorem chain {P : Program} {w : World} {mg : Str → Option Value} {h : Heap} {K : PySem.W.Frag} (X : K.In h) (Gm : h.Ns mainGlobals mg) (Y : He.SaysX fa fnl [] tf ex w h K) (base : Heap) (Kb : K.In base) (Gb : base.Ns mainGlobals mg)
    (TBs : ∀ p ∈ tf, LamX.TabB base mg (He.cT K p).1 (He.cT K p).2) : HasG P w ⟨K, mg, tabsOf tf K⟩ base "law" Plaw 21 cLaw := by
  have g__law_cup : mg "_law_cup" = some (.ref (He.ga K "_law_cup")) := He.glo_ok X Gm (Y.t.d.facts (f := .glo "_law_cup") (List.mem_append_left _ (List.mem_append_left _ (List.mem_append_left _ (List.Mem.head _)))))
  have g_is_less : mg "is_less" = some (.ref (He.ga K "is_less")) := He.glo_ok X Gm (Y.t.d.facts (f := .glo "is_less") (List.mem_append_left _ (List.mem_append_left _ (List.mem_append_left _ (List.Mem.tail _ (List.Mem.head _))))))
  have g_is_tuple_of : mg "is_tuple_of" = some (.ref (He.ga K "is_tuple_of")) := He.glo_ok X Gm (Y.t.d.facts (f := .glo "is_tuple_of") (List.mem_append_left _ (List.mem_append_left _ (List.mem_append_left _ (List.Mem.tail _ (List.Mem.tail _ (List.Mem.head _)))))))
  have g_is_integer : mg "is_integer" = some (.ref (He.ga K "is_integer")) := He.glo_ok X Gm (Y.t.d.facts (f := .glo "is_integer") (List.mem_append_left _ (List.mem_append_left _ (List.mem_append_left _ (List.Mem.tail _ (List.Mem.tail _ (List.Mem.tail _ (List.Mem.head _))))))))
  have g_fits_any : mg "fits_any" = some (.ref (He.ga K "fits_any")) := He.glo_ok X Gm (Y.t.d.facts (f := .glo "fits_any") (List.mem_append_left _ (List.mem_append_left _ (List.mem_append_left _ (List.Mem.tail _ (List.Mem.tail _ (List.Mem.tail _ (List.Mem.tail _ (List.Mem.head _)))))))))
  have g_fits_stretch : mg "fits_stretch" = some (.ref (He.ga K "fits_stretch")) := He.glo_ok X Gm (Y.t.d.facts (f := .glo "fits_stretch") (List.mem_append_left _ (List.mem_append_left _ (List.mem_append_left _ (List.Mem.tail _ (List.Mem.tail _ (List.Mem.tail _ (List.Mem.tail _ (List.Mem.tail _ (List.Mem.head _))))))))))
  have g_need_stretch : mg "need_stretch" = some (.ref (He.ga K "need_stretch")) := He.glo_ok X Gm (Y.t.d.facts (f := .glo "need_stretch") (List.mem_append_left _ (List.mem_append_left _ (List.mem_append_left _ (List.Mem.tail _ (List.Mem.tail _ (List.Mem.tail _ (List.Mem.tail _ (List.Mem.tail _ (List.Mem.tail _ (List.Mem.head _)))))))))))
  have g_need_two : mg "need_two" = some (.ref (He.ga K "need_two")) := He.glo_ok X Gm (Y.t.d.facts (f := .glo "need_two") (List.mem_append_left _ (List.mem_append_left _ (List.mem_append_left _ (List.Mem.tail _ (List.Mem.tail _ (List.Mem.tail _ (List.Mem.tail _ (List.Mem.tail _ (List.Mem.tail _ (List.Mem.tail _ (List.Mem.head _))))))))))))
  have g_made : mg "made" = some (.ref (He.ga K "made")) := He.glo_ok X Gm (Y.t.d.facts (f := .glo "made") (List.mem_append_left _ (List.mem_append_left _ (List.mem_append_left _ (List.Mem.tail _ (List.Mem.tail _ (List.Mem.tail _ (List.Mem.tail _ (List.Mem.tail _ (List.Mem.tail _ (List.Mem.tail _ (List.Mem.tail _ (List.Mem.head _)))))))))))))
  have g_plus : mg "plus" = some (.ref (He.ga K "plus")) := He.glo_ok X Gm (Y.t.d.facts (f := .glo "plus") (List.mem_append_left _ (List.mem_append_left _ (List.mem_append_left _ (List.Mem.tail _ (List.Mem.tail _ (List.Mem.tail _ (List.Mem.tail _ (List.Mem.tail _ (List.Mem.tail _ (List.Mem.tail _ (List.Mem.tail _ (List.Mem.tail _ (List.Mem.head _))))))))))))))
  have g_sum_by : mg "sum_by" = some (.ref (He.ga K "sum_by")) := He.glo_ok X Gm (Y.t.d.facts (f := .glo "sum_by") (List.mem_append_left _ (List.mem_append_left _ (List.mem_append_left _ (List.Mem.tail _ (List.Mem.tail _ (List.Mem.tail _ (List.Mem.tail _ (List.Mem.tail _ (List.Mem.tail _ (List.Mem.tail _ (List.Mem.tail _ (List.Mem.tail _ (List.Mem.tail _ (List.Mem.head _)))))))))))))))
  have g_sum_of : mg "sum_of" = some (.ref (He.ga K "sum_of")) := He.glo_ok X Gm (Y.t.d.facts (f := .glo "sum_of") (List.mem_append_left _ (List.mem_append_left _ (List.mem_append_left _ (List.Mem.tail _ (List.Mem.tail _ (List.Mem.tail _ (List.Mem.tail _ (List.Mem.tail _ (List.Mem.tail _ (List.Mem.tail _ (List.Mem.tail _ (List.Mem.tail _ (List.Mem.tail _ (List.Mem.tail _ (List.Mem.head _))))))))))))))))
  have g_minus : mg "minus" = some (.ref (He.ga K "minus")) := He.glo_ok X Gm (Y.t.d.facts (f := .glo "minus") (List.mem_append_left _ (List.mem_append_left _ (List.mem_append_left _ (List.Mem.tail _ (List.Mem.tail _ (List.Mem.tail _ (List.Mem.tail _ (List.Mem.tail _ (List.Mem.tail _ (List.Mem.tail _ (List.Mem.tail _ (List.Mem.tail _ (List.Mem.tail _ (List.Mem.tail _ (List.Mem.tail _ (List.Mem.head _)))))))))))))))))
  have g_less : mg "less" = some (.ref (He.ga K "less")) := He.glo_ok X Gm (Y.t.d.facts (f := .glo "less") (List.mem_append_left _ (List.mem_append_left _ (List.mem_append_left _ (List.Mem.tail _ (List.Mem.tail _ (List.Mem.tail _ (List.Mem.tail _ (List.Mem.tail _ (List.Mem.tail _ (List.Mem.tail _ (List.Mem.tail _ (List.Mem.tail _ (List.Mem.tail _ (List.Mem.tail _ (List.Mem.tail _ (List.Mem.tail _ (List.Mem.head _))))))))))))))))))
  have g_difference_by : mg "difference_by" = some (.ref (He.ga K "difference_by")) := He.glo_ok X Gm (Y.t.d.facts (f := .glo "difference_by") (List.mem_append_left _ (List.mem_append_left _ (List.mem_append_left _ (List.Mem.tail _ (List.Mem.tail _ (List.Mem.tail _ (List.Mem.tail _ (List.Mem.tail _ (List.Mem.tail _ (List.Mem.tail _ (List.Mem.tail _ (List.Mem.tail _ (List.Mem.tail _ (List.Mem.tail _ (List.Mem.tail _ (List.Mem.tail _ (List.Mem.tail _ (List.Mem.head _)))))))))))))))))))
  have g_difference_of : mg "difference_of" = some (.ref (He.ga K "difference_of")) := He.glo_ok X Gm (Y.t.d.facts (f := .glo "difference_of") (List.mem_append_left _ (List.mem_append_left _ (List.mem_append_left _ (List.Mem.tail _ (List.Mem.tail _ (List.Mem.tail _ (List.Mem.tail _ (List.Mem.tail _ (List.Mem.tail _ (List.Mem.tail _ (List.Mem.tail _ (List.Mem.tail _ (List.Mem.tail _ (List.Mem.tail _ (List.Mem.tail _ (List.Mem.tail _ (List.Mem.tail _ (List.Mem.tail _ (List.Mem.head _))))))))))))))))))))
  have g_least : mg "least" = some (.ref (He.ga K "least")) := He.glo_ok X Gm (Y.t.d.facts (f := .glo "least") (List.mem_append_left _ (List.mem_append_left _ (List.mem_append_left _ (List.Mem.tail _ (List.Mem.tail _ (List.Mem.tail _ (List.Mem.tail _ (List.Mem.tail _ (List.Mem.tail _ (List.Mem.tail _ (List.Mem.tail _ (List.Mem.tail _ (List.Mem.tail _ (List.Mem.tail _ (List.Mem.tail _ (List.Mem.tail _ (List.Mem.tail _ (List.Mem.tail _ (List.Mem.tail _ (List.Mem.head _)))))))))))))))))))))
  have g_most : mg "most" = some (.ref (He.ga K "most")) := He.glo_ok X Gm (Y.t.d.facts (f := .glo "most") (List.mem_append_left _ (List.mem_append_left _ (List.mem_append_left _ (List.Mem.tail _ (List.Mem.tail _ (List.Mem.tail _ (List.Mem.tail _ (List.Mem.tail _ (List.Mem.tail _ (List.Mem.tail _ (List.Mem.tail _ (List.Mem.tail _ (List.Mem.tail _ (List.Mem.tail _ (List.Mem.tail _ (List.Mem.tail _ (List.Mem.tail _ (List.Mem.tail _ (List.Mem.tail _ (List.Mem.tail _ (List.Mem.head _))))))))))))))))))))))
  have g_hull : mg "hull" = some (.ref (He.ga K "hull")) := He.glo_ok X Gm (Y.t.d.facts (f := .glo "hull") (List.mem_append_left _ (List.mem_append_left _ (List.mem_append_left _ (List.Mem.tail _ (List.Mem.tail _ (List.Mem.tail _ (List.Mem.tail _ (List.Mem.tail _ (List.Mem.tail _ (List.Mem.tail _ (List.Mem.tail _ (List.Mem.tail _ (List.Mem.tail _ (List.Mem.tail _ (List.Mem.tail _ (List.Mem.tail _ (List.Mem.tail _ (List.Mem.tail _ (List.Mem.tail _ (List.Mem.tail _ (List.Mem.tail _ (List.Mem.head _)))))))))))))))))))))))
  have g_times : mg "times" = some (.ref (He.ga K "times")) := He.glo_ok X Gm (Y.t.d.facts (f := .glo "times") (List.mem_append_left _ (List.mem_append_left _ (List.mem_append_left _ (List.Mem.tail _ (List.Mem.tail _ (List.Mem.tail _ (List.Mem.tail _ (List.Mem.tail _ (List.Mem.tail _ (List.Mem.tail _ (List.Mem.tail _ (List.Mem.tail _ (List.Mem.tail _ (List.Mem.tail _ (List.Mem.tail _ (List.Mem.tail _ (List.Mem.tail _ (List.Mem.tail _ (List.Mem.tail _ (List.Mem.tail _ (List.Mem.tail _ (List.Mem.tail _ (List.Mem.head _))))))))))))))))))))))))
  have g_product_by : mg "product_by" = some (.ref (He.ga K "product_by")) := He.glo_ok X Gm (Y.t.d.facts (f := .glo "product_by") (List.mem_append_left _ (List.mem_append_left _ (List.mem_append_left _ (List.Mem.tail _ (List.Mem.tail _ (List.Mem.tail _ (List.Mem.tail _ (List.Mem.tail _ (List.Mem.tail _ (List.Mem.tail _ (List.Mem.tail _ (List.Mem.tail _ (List.Mem.tail _ (List.Mem.tail _ (List.Mem.tail _ (List.Mem.tail _ (List.Mem.tail _ (List.Mem.tail _ (List.Mem.tail _ (List.Mem.tail _ (List.Mem.tail _ (List.Mem.tail _ (List.Mem.tail _ (List.Mem.head _)))))))))))))))))))))))))
  have g_product_of : mg "product_of" = some (.ref (He.ga K "product_of")) := He.glo_ok X Gm (Y.t.d.facts (f := .glo "product_of") (List.mem_append_left _ (List.mem_append_left _ (List.mem_append_left _ (List.Mem.tail _ (List.Mem.tail _ (List.Mem.tail _ (List.Mem.tail _ (List.Mem.tail _ (List.Mem.tail _ (List.Mem.tail _ (List.Mem.tail _ (List.Mem.tail _ (List.Mem.tail _ (List.Mem.tail _ (List.Mem.tail _ (List.Mem.tail _ (List.Mem.tail _ (List.Mem.tail _ (List.Mem.tail _ (List.Mem.tail _ (List.Mem.tail _ (List.Mem.tail _ (List.Mem.tail _ (List.Mem.tail _ (List.Mem.head _))))))))))))))))))))))))))
  have g_is_in : mg "is_in" = some (.ref (He.ga K "is_in")) := He.glo_ok X Gm (Y.t.d.facts (f := .glo "is_in") (List.mem_append_left _ (List.mem_append_left _ (List.mem_append_left _ (List.Mem.tail _ (List.Mem.tail _ (List.Mem.tail _ (List.Mem.tail _ (List.Mem.tail _ (List.Mem.tail _ (List.Mem.tail _ (List.Mem.tail _ (List.Mem.tail _ (List.Mem.tail _ (List.Mem.tail _ (List.Mem.tail _ (List.Mem.tail _ (List.Mem.tail _ (List.Mem.tail _ (List.Mem.tail _ (List.Mem.tail _ (List.Mem.tail _ (List.Mem.tail _ (List.Mem.tail _ (List.Mem.tail _ (List.Mem.tail _ (List.Mem.head _)))))))))))))))))))))))))))
  have g_inverse : mg "inverse" = some (.ref (He.ga K "inverse")) := He.glo_ok X Gm (Y.t.d.facts (f := .glo "inverse") (List.mem_append_left _ (List.mem_append_left _ (List.mem_append_left _ (List.Mem.tail _ (List.Mem.tail _ (List.Mem.tail _ (List.Mem.tail _ (List.Mem.tail _ (List.Mem.tail _ (List.Mem.tail _ (List.Mem.tail _ (List.Mem.tail _ (List.Mem.tail _ (List.Mem.tail _ (List.Mem.tail _ (List.Mem.tail _ (List.Mem.tail _ (List.Mem.tail _ (List.Mem.tail _ (List.Mem.tail _ (List.Mem.tail _ (List.Mem.tail _ (List.Mem.tail _ (List.Mem.tail _ (List.Mem.tail _ (List.Mem.tail _ (List.Mem.head _))))))))))))))))))))))))))))
  have g_quotient_by : mg "quotient_by" = some (.ref (He.ga K "quotient_by")) := He.glo_ok X Gm (Y.t.d.facts (f := .glo "quotient_by") (List.mem_append_left _ (List.mem_append_left _ (List.mem_append_left _ (List.Mem.tail _ (List.Mem.tail _ (List.Mem.tail _ (List.Mem.tail _ (List.Mem.tail _ (List.Mem.tail _ (List.Mem.tail _ (List.Mem.tail _ (List.Mem.tail _ (List.Mem.tail _ (List.Mem.tail _ (List.Mem.tail _ (List.Mem.tail _ (List.Mem.tail _ (List.Mem.tail _ (List.Mem.tail _ (List.Mem.tail _ (List.Mem.tail _ (List.Mem.tail _ (List.Mem.tail _ (List.Mem.tail _ (List.Mem.tail _ (List.Mem.tail _ (List.Mem.tail _ (List.Mem.head _)))))))))))))))))))))))))))))
  have g_quotient_of : mg "quotient_of" = some (.ref (He.ga K "quotient_of")) := He.glo_ok X Gm (Y.t.d.facts (f := .glo "quotient_of") (List.mem_append_left _ (List.mem_append_left _ (List.mem_append_left _ (List.Mem.tail _ (List.Mem.tail _ (List.Mem.tail _ (List.Mem.tail _ (List.Mem.tail _ (List.Mem.tail _ (List.Mem.tail _ (List.Mem.tail _ (List.Mem.tail _ (List.Mem.tail _ (List.Mem.tail _ (List.Mem.tail _ (List.Mem.tail _ (List.Mem.tail _ (List.Mem.tail _ (List.Mem.tail _ (List.Mem.tail _ (List.Mem.tail _ (List.Mem.tail _ (List.Mem.tail _ (List.Mem.tail _ (List.Mem.tail _ (List.Mem.tail _ (List.Mem.tail _ (List.Mem.tail _ (List.Mem.head _))))))))))))))))))))))))))))))
  have g_least_by : mg "least_by" = some (.ref (He.ga K "least_by")) := He.glo_ok X Gm (Y.t.d.facts (f := .glo "least_by") (List.mem_append_left _ (List.mem_append_left _ (List.mem_append_left _ (List.Mem.tail _ (List.Mem.tail _ (List.Mem.tail _ (List.Mem.tail _ (List.Mem.tail _ (List.Mem.tail _ (List.Mem.tail _ (List.Mem.tail _ (List.Mem.tail _ (List.Mem.tail _ (List.Mem.tail _ (List.Mem.tail _ (List.Mem.tail _ (List.Mem.tail _ (List.Mem.tail _ (List.Mem.tail _ (List.Mem.tail _ (List.Mem.tail _ (List.Mem.tail _ (List.Mem.tail _ (List.Mem.tail _ (List.Mem.tail _ (List.Mem.tail _ (List.Mem.tail _ (List.Mem.tail _ (List.Mem.tail _ (List.Mem.head _)))))))))))))))))))))))))))))))
  have g_least_of : mg "least_of" = some (.ref (He.ga K "least_of")) := He.glo_ok X Gm (Y.t.d.facts (f := .glo "least_of") (List.mem_append_left _ (List.mem_append_left _ (List.mem_append_left _ (List.Mem.tail _ (List.Mem.tail _ (List.Mem.tail _ (List.Mem.tail _ (List.Mem.tail _ (List.Mem.tail _ (List.Mem.tail _ (List.Mem.tail _ (List.Mem.tail _ (List.Mem.tail _ (List.Mem.tail _ (List.Mem.tail _ (List.Mem.tail _ (List.Mem.tail _ (List.Mem.tail _ (List.Mem.tail _ (List.Mem.tail _ (List.Mem.tail _ (List.Mem.tail _ (List.Mem.tail _ (List.Mem.tail _ (List.Mem.tail _ (List.Mem.tail _ (List.Mem.tail _ (List.Mem.tail _ (List.Mem.tail _ (List.Mem.tail _ (List.Mem.head _))))))))))))))))))))))))))))))))
  have g_most_by : mg "most_by" = some (.ref (He.ga K "most_by")) := He.glo_ok X Gm (Y.t.d.facts (f := .glo "most_by") (List.mem_append_left _ (List.mem_append_left _ (List.mem_append_left _ (List.Mem.tail _ (List.Mem.tail _ (List.Mem.tail _ (List.Mem.tail _ (List.Mem.tail _ (List.Mem.tail _ (List.Mem.tail _ (List.Mem.tail _ (List.Mem.tail _ (List.Mem.tail _ (List.Mem.tail _ (List.Mem.tail _ (List.Mem.tail _ (List.Mem.tail _ (List.Mem.tail _ (List.Mem.tail _ (List.Mem.tail _ (List.Mem.tail _ (List.Mem.tail _ (List.Mem.tail _ (List.Mem.tail _ (List.Mem.tail _ (List.Mem.tail _ (List.Mem.tail _ (List.Mem.tail _ (List.Mem.tail _ (List.Mem.tail _ (List.Mem.tail _ (List.Mem.head _)))))))))))))))))))))))))))))))))
  have g_most_of : mg "most_of" = some (.ref (He.ga K "most_of")) := He.glo_ok X Gm (Y.t.d.facts (f := .glo "most_of") (List.mem_append_left _ (List.mem_append_left _ (List.mem_append_left _ (List.Mem.tail _ (List.Mem.tail _ (List.Mem.tail _ (List.Mem.tail _ (List.Mem.tail _ (List.Mem.tail _ (List.Mem.tail _ (List.Mem.tail _ (List.Mem.tail _ (List.Mem.tail _ (List.Mem.tail _ (List.Mem.tail _ (List.Mem.tail _ (List.Mem.tail _ (List.Mem.tail _ (List.Mem.tail _ (List.Mem.tail _ (List.Mem.tail _ (List.Mem.tail _ (List.Mem.tail _ (List.Mem.tail _ (List.Mem.tail _ (List.Mem.tail _ (List.Mem.tail _ (List.Mem.tail _ (List.Mem.tail _ (List.Mem.tail _ (List.Mem.tail _ (List.Mem.tail _ (List.Mem.head _))))))))))))))))))))))))))))))))))
  have g_minus_by : mg "minus_by" = some (.ref (He.ga K "minus_by")) := He.glo_ok X Gm (Y.t.d.facts (f := .glo "minus_by") (List.mem_append_left _ (List.mem_append_left _ (List.mem_append_right _ (List.Mem.head _)))))
  have g_minus_of : mg "minus_of" = some (.ref (He.ga K "minus_of")) := He.glo_ok X Gm (Y.t.d.facts (f := .glo "minus_of") (List.mem_append_left _ (List.mem_append_left _ (List.mem_append_right _ (List.Mem.tail _ (List.Mem.head _))))))
  have g_amount_by : mg "amount_by" = some (.ref (He.ga K "amount_by")) := He.glo_ok X Gm (Y.t.d.facts (f := .glo "amount_by") (List.mem_append_left _ (List.mem_append_left _ (List.mem_append_right _ (List.Mem.tail _ (List.Mem.tail _ (List.Mem.head _)))))))
  have g_amount_of : mg "amount_of" = some (.ref (He.ga K "amount_of")) := He.glo_ok X Gm (Y.t.d.facts (f := .glo "amount_of") (List.mem_append_left _ (List.mem_append_left _ (List.mem_append_right _ (List.Mem.tail _ (List.Mem.tail _ (List.Mem.tail _ (List.Mem.head _))))))))
  have g_is_whole : mg "is_whole" = some (.ref (He.ga K "is_whole")) := He.glo_ok X Gm (Y.t.d.facts (f := .glo "is_whole") (List.mem_append_left _ (List.mem_append_left _ (List.mem_append_right _ (List.Mem.tail _ (List.Mem.tail _ (List.Mem.tail _ (List.Mem.tail _ (List.Mem.head _)))))))))
  have g_need_whole : mg "need_whole" = some (.ref (He.ga K "need_whole")) := He.glo_ok X Gm (Y.t.d.facts (f := .glo "need_whole") (List.mem_append_left _ (List.mem_append_left _ (List.mem_append_right _ (List.Mem.tail _ (List.Mem.tail _ (List.Mem.tail _ (List.Mem.tail _ (List.Mem.tail _ (List.Mem.head _))))))))))
  have g_raised : mg "raised" = some (.ref (He.ga K "raised")) := He.glo_ok X Gm (Y.t.d.facts (f := .glo "raised") (List.mem_append_left _ (List.mem_append_left _ (List.mem_append_right _ (List.Mem.tail _ (List.Mem.tail _ (List.Mem.tail _ (List.Mem.tail _ (List.Mem.tail _ (List.Mem.tail _ (List.Mem.head _)))))))))))
  have g_power_by : mg "power_by" = some (.ref (He.ga K "power_by")) := He.glo_ok X Gm (Y.t.d.facts (f := .glo "power_by") (List.mem_append_left _ (List.mem_append_left _ (List.mem_append_right _ (List.Mem.tail _ (List.Mem.tail _ (List.Mem.tail _ (List.Mem.tail _ (List.Mem.tail _ (List.Mem.tail _ (List.Mem.tail _ (List.Mem.head _))))))))))))
  have g_power_of : mg "power_of" = some (.ref (He.ga K "power_of")) := He.glo_ok X Gm (Y.t.d.facts (f := .glo "power_of") (List.mem_append_left _ (List.mem_append_left _ (List.mem_append_right _ (List.Mem.tail _ (List.Mem.tail _ (List.Mem.tail _ (List.Mem.tail _ (List.Mem.tail _ (List.Mem.tail _ (List.Mem.tail _ (List.Mem.tail _ (List.Mem.head _)))))))))))))
  have g__law_same : mg "_law_same" = some (.ref (He.ga K "_law_same")) := He.glo_ok X Gm (Y.t.d.facts (f := .glo "_law_same") (List.mem_append_left _ (List.mem_append_left _ (List.mem_append_right _ (List.Mem.tail _ (List.Mem.tail _ (List.Mem.tail _ (List.Mem.tail _ (List.Mem.tail _ (List.Mem.tail _ (List.Mem.tail _ (List.Mem.tail _ (List.Mem.tail _ (List.Mem.head _))))))))))))))
  have g__law_common : mg "_law_common" = some (.ref (He.ga K "_law_common")) := He.glo_ok X Gm (Y.t.d.facts (f := .glo "_law_common") (List.mem_append_left _ (List.mem_append_left _ (List.mem_append_right _ (List.Mem.tail _ (List.Mem.tail _ (List.Mem.tail _ (List.Mem.tail _ (List.Mem.tail _ (List.Mem.tail _ (List.Mem.tail _ (List.Mem.tail _ (List.Mem.tail _ (List.Mem.tail _ (List.Mem.head _)))))))))))))))
  have g__law_made : mg "_law_made" = some (.ref (He.ga K "_law_made")) := He.glo_ok X Gm (Y.t.d.facts (f := .glo "_law_made") (List.mem_append_left _ (List.mem_append_left _ (List.mem_append_right _ (List.Mem.tail _ (List.Mem.tail _ (List.Mem.tail _ (List.Mem.tail _ (List.Mem.tail _ (List.Mem.tail _ (List.Mem.tail _ (List.Mem.tail _ (List.Mem.tail _ (List.Mem.tail _ (List.Mem.tail _ (List.Mem.head _))))))))))))))))
  have g__law_roll : mg "_law_roll" = some (.ref (He.ga K "_law_roll")) := He.glo_ok X Gm (Y.t.d.facts (f := .glo "_law_roll") (List.mem_append_left _ (List.mem_append_left _ (List.mem_append_right _ (List.Mem.tail _ (List.Mem.tail _ (List.Mem.tail _ (List.Mem.tail _ (List.Mem.tail _ (List.Mem.tail _ (List.Mem.tail _ (List.Mem.tail _ (List.Mem.tail _ (List.Mem.tail _ (List.Mem.tail _ (List.Mem.tail _ (List.Mem.head _)))))))))))))))))
  have g__law_some : mg "_law_some" = some (.ref (He.ga K "_law_some")) := He.glo_ok X Gm (Y.t.d.facts (f := .glo "_law_some") (List.mem_append_left _ (List.mem_append_left _ (List.mem_append_right _ (List.Mem.tail _ (List.Mem.tail _ (List.Mem.tail _ (List.Mem.tail _ (List.Mem.tail _ (List.Mem.tail _ (List.Mem.tail _ (List.Mem.tail _ (List.Mem.tail _ (List.Mem.tail _ (List.Mem.tail _ (List.Mem.tail _ (List.Mem.tail _ (List.Mem.head _))))))))))))))))))
  have g__law_any : mg "_law_any" = some (.ref (He.ga K "_law_any")) := He.glo_ok X Gm (Y.t.d.facts (f := .glo "_law_any") (List.mem_append_left _ (List.mem_append_left _ (List.mem_append_right _ (List.Mem.tail _ (List.Mem.tail _ (List.Mem.tail _ (List.Mem.tail _ (List.Mem.tail _ (List.Mem.tail _ (List.Mem.tail _ (List.Mem.tail _ (List.Mem.tail _ (List.Mem.tail _ (List.Mem.tail _ (List.Mem.tail _ (List.Mem.tail _ (List.Mem.tail _ (List.Mem.head _)))))))))))))))))))
  have g__law_is_less : mg "_law_is_less" = some (.ref (He.ga K "_law_is_less")) := He.glo_ok X Gm (Y.t.d.facts (f := .glo "_law_is_less") (List.mem_append_left _ (List.mem_append_left _ (List.mem_append_right _ (List.Mem.tail _ (List.Mem.tail _ (List.Mem.tail _ (List.Mem.tail _ (List.Mem.tail _ (List.Mem.tail _ (List.Mem.tail _ (List.Mem.tail _ (List.Mem.tail _ (List.Mem.tail _ (List.Mem.tail _ (List.Mem.tail _ (List.Mem.tail _ (List.Mem.tail _ (List.Mem.tail _ (List.Mem.head _))))))))))))))))))))
  have g__law_order : mg "_law_order" = some (.ref (He.ga K "_law_order")) := He.glo_ok X Gm (Y.t.d.facts (f := .glo "_law_order") (List.mem_append_left _ (List.mem_append_left _ (List.mem_append_right _ (List.Mem.tail _ (List.Mem.tail _ (List.Mem.tail _ (List.Mem.tail _ (List.Mem.tail _ (List.Mem.tail _ (List.Mem.tail _ (List.Mem.tail _ (List.Mem.tail _ (List.Mem.tail _ (List.Mem.tail _ (List.Mem.tail _ (List.Mem.tail _ (List.Mem.tail _ (List.Mem.tail _ (List.Mem.tail _ (List.Mem.head _)))))))))))))))))))))
  have g__law_stretch : mg "_law_stretch" = some (.ref (He.ga K "_law_stretch")) := He.glo_ok X Gm (Y.t.d.facts (f := .glo "_law_stretch") (List.mem_append_left _ (List.mem_append_left _ (List.mem_append_right _ (List.Mem.tail _ (List.Mem.tail _ (List.Mem.tail _ (List.Mem.tail _ (List.Mem.tail _ (List.Mem.tail _ (List.Mem.tail _ (List.Mem.tail _ (List.Mem.tail _ (List.Mem.tail _ (List.Mem.tail _ (List.Mem.tail _ (List.Mem.tail _ (List.Mem.tail _ (List.Mem.tail _ (List.Mem.tail _ (List.Mem.tail _ (List.Mem.head _))))))))))))))))))))))
  have g__law_in : mg "_law_in" = some (.ref (He.ga K "_law_in")) := He.glo_ok X Gm (Y.t.d.facts (f := .glo "_law_in") (List.mem_append_left _ (List.mem_append_left _ (List.mem_append_right _ (List.Mem.tail _ (List.Mem.tail _ (List.Mem.tail _ (List.Mem.tail _ (List.Mem.tail _ (List.Mem.tail _ (List.Mem.tail _ (List.Mem.tail _ (List.Mem.tail _ (List.Mem.tail _ (List.Mem.tail _ (List.Mem.tail _ (List.Mem.tail _ (List.Mem.tail _ (List.Mem.tail _ (List.Mem.tail _ (List.Mem.tail _ (List.Mem.tail _ (List.Mem.head _)))))))))))))))))))))))
  have g__law_minus : mg "_law_minus" = some (.ref (He.ga K "_law_minus")) := He.glo_ok X Gm (Y.t.d.facts (f := .glo "_law_minus") (List.mem_append_left _ (List.mem_append_left _ (List.mem_append_right _ (List.Mem.tail _ (List.Mem.tail _ (List.Mem.tail _ (List.Mem.tail _ (List.Mem.tail _ (List.Mem.tail _ (List.Mem.tail _ (List.Mem.tail _ (List.Mem.tail _ (List.Mem.tail _ (List.Mem.tail _ (List.Mem.tail _ (List.Mem.tail _ (List.Mem.tail _ (List.Mem.tail _ (List.Mem.tail _ (List.Mem.tail _ (List.Mem.tail _ (List.Mem.tail _ (List.Mem.head _))))))))))))))))))))))))
  have g__law_plus : mg "_law_plus" = some (.ref (He.ga K "_law_plus")) := He.glo_ok X Gm (Y.t.d.facts (f := .glo "_law_plus") (List.mem_append_left _ (List.mem_append_left _ (List.mem_append_right _ (List.Mem.tail _ (List.Mem.tail _ (List.Mem.tail _ (List.Mem.tail _ (List.Mem.tail _ (List.Mem.tail _ (List.Mem.tail _ (List.Mem.tail _ (List.Mem.tail _ (List.Mem.tail _ (List.Mem.tail _ (List.Mem.tail _ (List.Mem.tail _ (List.Mem.tail _ (List.Mem.tail _ (List.Mem.tail _ (List.Mem.tail _ (List.Mem.tail _ (List.Mem.tail _ (List.Mem.tail _ (List.Mem.head _)))))))))))))))))))))))))
  have g__law_times : mg "_law_times" = some (.ref (He.ga K "_law_times")) := He.glo_ok X Gm (Y.t.d.facts (f := .glo "_law_times") (List.mem_append_left _ (List.mem_append_left _ (List.mem_append_right _ (List.Mem.tail _ (List.Mem.tail _ (List.Mem.tail _ (List.Mem.tail _ (List.Mem.tail _ (List.Mem.tail _ (List.Mem.tail _ (List.Mem.tail _ (List.Mem.tail _ (List.Mem.tail _ (List.Mem.tail _ (List.Mem.tail _ (List.Mem.tail _ (List.Mem.tail _ (List.Mem.tail _ (List.Mem.tail _ (List.Mem.tail _ (List.Mem.tail _ (List.Mem.tail _ (List.Mem.tail _ (List.Mem.tail _ (List.Mem.head _))))))))))))))))))))))))))
  have g__law_by : mg "_law_by" = some (.ref (He.ga K "_law_by")) := He.glo_ok X Gm (Y.t.d.facts (f := .glo "_law_by") (List.mem_append_left _ (List.mem_append_left _ (List.mem_append_right _ (List.Mem.tail _ (List.Mem.tail _ (List.Mem.tail _ (List.Mem.tail _ (List.Mem.tail _ (List.Mem.tail _ (List.Mem.tail _ (List.Mem.tail _ (List.Mem.tail _ (List.Mem.tail _ (List.Mem.tail _ (List.Mem.tail _ (List.Mem.tail _ (List.Mem.tail _ (List.Mem.tail _ (List.Mem.tail _ (List.Mem.tail _ (List.Mem.tail _ (List.Mem.tail _ (List.Mem.tail _ (List.Mem.tail _ (List.Mem.tail _ (List.Mem.head _)))))))))))))))))))))))))))
  have g__law_lesser : mg "_law_lesser" = some (.ref (He.ga K "_law_lesser")) := He.glo_ok X Gm (Y.t.d.facts (f := .glo "_law_lesser") (List.mem_append_left _ (List.mem_append_left _ (List.mem_append_right _ (List.Mem.tail _ (List.Mem.tail _ (List.Mem.tail _ (List.Mem.tail _ (List.Mem.tail _ (List.Mem.tail _ (List.Mem.tail _ (List.Mem.tail _ (List.Mem.tail _ (List.Mem.tail _ (List.Mem.tail _ (List.Mem.tail _ (List.Mem.tail _ (List.Mem.tail _ (List.Mem.tail _ (List.Mem.tail _ (List.Mem.tail _ (List.Mem.tail _ (List.Mem.tail _ (List.Mem.tail _ (List.Mem.tail _ (List.Mem.tail _ (List.Mem.tail _ (List.Mem.head _))))))))))))))))))))))))))))
  have g__law_greater : mg "_law_greater" = some (.ref (He.ga K "_law_greater")) := He.glo_ok X Gm (Y.t.d.facts (f := .glo "_law_greater") (List.mem_append_left _ (List.mem_append_left _ (List.mem_append_right _ (List.Mem.tail _ (List.Mem.tail _ (List.Mem.tail _ (List.Mem.tail _ (List.Mem.tail _ (List.Mem.tail _ (List.Mem.tail _ (List.Mem.tail _ (List.Mem.tail _ (List.Mem.tail _ (List.Mem.tail _ (List.Mem.tail _ (List.Mem.tail _ (List.Mem.tail _ (List.Mem.tail _ (List.Mem.tail _ (List.Mem.tail _ (List.Mem.tail _ (List.Mem.tail _ (List.Mem.tail _ (List.Mem.tail _ (List.Mem.tail _ (List.Mem.tail _ (List.Mem.tail _ (List.Mem.head _)))))))))))))))))))))))))))))
  have g__law_hull : mg "_law_hull" = some (.ref (He.ga K "_law_hull")) := He.glo_ok X Gm (Y.t.d.facts (f := .glo "_law_hull") (List.mem_append_left _ (List.mem_append_left _ (List.mem_append_right _ (List.Mem.tail _ (List.Mem.tail _ (List.Mem.tail _ (List.Mem.tail _ (List.Mem.tail _ (List.Mem.tail _ (List.Mem.tail _ (List.Mem.tail _ (List.Mem.tail _ (List.Mem.tail _ (List.Mem.tail _ (List.Mem.tail _ (List.Mem.tail _ (List.Mem.tail _ (List.Mem.tail _ (List.Mem.tail _ (List.Mem.tail _ (List.Mem.tail _ (List.Mem.tail _ (List.Mem.tail _ (List.Mem.tail _ (List.Mem.tail _ (List.Mem.tail _ (List.Mem.tail _ (List.Mem.tail _ (List.Mem.head _))))))))))))))))))))))))))))))
  have g__law_pairs : mg "_law_pairs" = some (.ref (He.ga K "_law_pairs")) := He.glo_ok X Gm (Y.t.d.facts (f := .glo "_law_pairs") (List.mem_append_left _ (List.mem_append_left _ (List.mem_append_right _ (List.Mem.tail _ (List.Mem.tail _ (List.Mem.tail _ (List.Mem.tail _ (List.Mem.tail _ (List.Mem.tail _ (List.Mem.tail _ (List.Mem.tail _ (List.Mem.tail _ (List.Mem.tail _ (List.Mem.tail _ (List.Mem.tail _ (List.Mem.tail _ (List.Mem.tail _ (List.Mem.tail _ (List.Mem.tail _ (List.Mem.tail _ (List.Mem.tail _ (List.Mem.tail _ (List.Mem.tail _ (List.Mem.tail _ (List.Mem.tail _ (List.Mem.tail _ (List.Mem.tail _ (List.Mem.tail _ (List.Mem.tail _ (List.Mem.head _)))))))))))))))))))))))))))))))
  have g__law_two_right : mg "_law_two_right" = some (.ref (He.ga K "_law_two_right")) := He.glo_ok X Gm (Y.t.d.facts (f := .glo "_law_two_right") (List.mem_append_left _ (List.mem_append_left _ (List.mem_append_right _ (List.Mem.tail _ (List.Mem.tail _ (List.Mem.tail _ (List.Mem.tail _ (List.Mem.tail _ (List.Mem.tail _ (List.Mem.tail _ (List.Mem.tail _ (List.Mem.tail _ (List.Mem.tail _ (List.Mem.tail _ (List.Mem.tail _ (List.Mem.tail _ (List.Mem.tail _ (List.Mem.tail _ (List.Mem.tail _ (List.Mem.tail _ (List.Mem.tail _ (List.Mem.tail _ (List.Mem.tail _ (List.Mem.tail _ (List.Mem.tail _ (List.Mem.tail _ (List.Mem.tail _ (List.Mem.tail _ (List.Mem.tail _ (List.Mem.tail _ (List.Mem.head _))))))))))))))))))))))))))))))))
  have g__law_raised : mg "_law_raised" = some (.ref (He.ga K "_law_raised")) := He.glo_ok X Gm (Y.t.d.facts (f := .glo "_law_raised") (List.mem_append_left _ (List.mem_append_left _ (List.mem_append_right _ (List.Mem.tail _ (List.Mem.tail _ (List.Mem.tail _ (List.Mem.tail _ (List.Mem.tail _ (List.Mem.tail _ (List.Mem.tail _ (List.Mem.tail _ (List.Mem.tail _ (List.Mem.tail _ (List.Mem.tail _ (List.Mem.tail _ (List.Mem.tail _ (List.Mem.tail _ (List.Mem.tail _ (List.Mem.tail _ (List.Mem.tail _ (List.Mem.tail _ (List.Mem.tail _ (List.Mem.tail _ (List.Mem.tail _ (List.Mem.tail _ (List.Mem.tail _ (List.Mem.tail _ (List.Mem.tail _ (List.Mem.tail _ (List.Mem.tail _ (List.Mem.tail _ (List.Mem.head _)))))))))))))))))))))))))))))))))
  have g__law_one_right : mg "_law_one_right" = some (.ref (He.ga K "_law_one_right")) := He.glo_ok X Gm (Y.t.d.facts (f := .glo "_law_one_right") (List.mem_append_left _ (List.mem_append_left _ (List.mem_append_right _ (List.Mem.tail _ (List.Mem.tail _ (List.Mem.tail _ (List.Mem.tail _ (List.Mem.tail _ (List.Mem.tail _ (List.Mem.tail _ (List.Mem.tail _ (List.Mem.tail _ (List.Mem.tail _ (List.Mem.tail _ (List.Mem.tail _ (List.Mem.tail _ (List.Mem.tail _ (List.Mem.tail _ (List.Mem.tail _ (List.Mem.tail _ (List.Mem.tail _ (List.Mem.tail _ (List.Mem.tail _ (List.Mem.tail _ (List.Mem.tail _ (List.Mem.tail _ (List.Mem.tail _ (List.Mem.tail _ (List.Mem.tail _ (List.Mem.tail _ (List.Mem.tail _ (List.Mem.tail _ (List.Mem.head _))))))))))))))))))))))))))))))))))
  have g__law_error : mg "_law_error" = some (.ref (He.ga K "_law_error")) := He.glo_ok X Gm (Y.t.d.facts (f := .glo "_law_error") (List.mem_append_left _ (List.mem_append_right _ (List.Mem.head _))))
  have g_law : mg "law" = some (.ref (He.ga K "law")) := He.glo_ok X Gm (Y.t.d.facts (f := .glo "law") (List.mem_append_left _ (List.mem_append_right _ (List.Mem.tail _ (List.Mem.head _)))))
  have g_InvalidStretch : mg "InvalidStretch" = some (.ref (He.ga K "InvalidStretch")) := He.glo_ok X Gm (Y.t.d.facts (f := .glo "InvalidStretch") (List.mem_append_left _ (List.mem_append_right _ (List.Mem.tail _ (List.Mem.tail _ (List.Mem.head _))))))
  have g_InvalidNumber : mg "InvalidNumber" = some (.ref (He.ga K "InvalidNumber")) := He.glo_ok X Gm (Y.t.d.facts (f := .glo "InvalidNumber") (List.mem_append_left _ (List.mem_append_right _ (List.Mem.tail _ (List.Mem.tail _ (List.Mem.tail _ (List.Mem.head _)))))))
  have g_NearError : mg "NearError" = some (.ref (He.ga K "NearError")) := He.glo_ok X Gm (Y.t.d.facts (f := .glo "NearError") (List.mem_append_left _ (List.mem_append_right _ (List.Mem.tail _ (List.Mem.tail _ (List.Mem.tail _ (List.Mem.tail _ (List.Mem.head _))))))))
  have g_InvalidFraction : mg "InvalidFraction" = some (.ref (He.ga K "InvalidFraction")) := He.glo_ok X Gm (Y.t.d.facts (f := .glo "InvalidFraction") (List.mem_append_left _ (List.mem_append_right _ (List.Mem.tail _ (List.Mem.tail _ (List.Mem.tail _ (List.Mem.tail _ (List.Mem.tail _ (List.Mem.head _)))))))))
  have g_InvalidTree : mg "InvalidTree" = some (.ref (He.ga K "InvalidTree")) := He.glo_ok X Gm (Y.t.d.facts (f := .glo "InvalidTree") (List.mem_append_left _ (List.mem_append_right _ (List.Mem.tail _ (List.Mem.tail _ (List.Mem.tail _ (List.Mem.tail _ (List.Mem.tail _ (List.Mem.tail _ (List.Mem.head _))))))))))
  have g_NONE : mg "NONE" = some (.ref (He.ga K "NONE")) := He.glo_ok X Gm (Y.t.d.facts (f := .glo "NONE") (List.mem_append_left _ (List.mem_append_right _ (List.Mem.tail _ (List.Mem.tail _ (List.Mem.tail _ (List.Mem.tail _ (List.Mem.tail _ (List.Mem.tail _ (List.Mem.tail _ (List.Mem.head _)))))))))))
  have g_ONE : mg "ONE" = some (.ref (He.ga K "ONE")) := He.glo_ok X Gm (Y.t.d.facts (f := .glo "ONE") (List.mem_append_left _ (List.mem_append_right _ (List.Mem.tail _ (List.Mem.tail _ (List.Mem.tail _ (List.Mem.tail _ (List.Mem.tail _ (List.Mem.tail _ (List.Mem.tail _ (List.Mem.tail _ (List.Mem.head _))))))))))))
  have b_list : mg "list" = none := He.free_ok X Gm (Y.t.d.facts (f := .free "list") (List.mem_append_left _ (List.mem_append_right _ (List.Mem.tail _ (List.Mem.tail _ (List.Mem.tail _ (List.Mem.tail _ (List.Mem.tail _ (List.Mem.tail _ (List.Mem.tail _ (List.Mem.tail _ (List.Mem.tail _ (List.Mem.head _)))))))))))))
  have b_abs : mg "abs" = none := He.free_ok X Gm (Y.t.d.facts (f := .free "abs") (List.mem_append_left _ (List.mem_append_right _ (List.Mem.tail _ (List.Mem.tail _ (List.Mem.tail _ (List.Mem.tail _ (List.Mem.tail _ (List.Mem.tail _ (List.Mem.tail _ (List.Mem.tail _ (List.Mem.tail _ (List.Mem.tail _ (List.Mem.head _))))))))))))))
  have b_int : mg "int" = none := He.free_ok X Gm (Y.t.d.facts (f := .free "int") (List.mem_append_left _ (List.mem_append_right _ (List.Mem.tail _ (List.Mem.tail _ (List.Mem.tail _ (List.Mem.tail _ (List.Mem.tail _ (List.Mem.tail _ (List.Mem.tail _ (List.Mem.tail _ (List.Mem.tail _ (List.Mem.tail _ (List.Mem.tail _ (List.Mem.head _)))))))))))))))
  have b_tuple : mg "tuple" = none := He.free_ok X Gm (Y.t.d.facts (f := .free "tuple") (List.mem_append_left _ (List.mem_append_right _ (List.Mem.tail _ (List.Mem.tail _ (List.Mem.tail _ (List.Mem.tail _ (List.Mem.tail _ (List.Mem.tail _ (List.Mem.tail _ (List.Mem.tail _ (List.Mem.tail _ (List.Mem.tail _ (List.Mem.tail _ (List.Mem.tail _ (List.Mem.head _))))))))))))))))
  have b_isinstance : mg "isinstance" = none := He.free_ok X Gm (Y.t.d.facts (f := .free "isinstance") (List.mem_append_left _ (List.mem_append_right _ (List.Mem.tail _ (List.Mem.tail _ (List.Mem.tail _ (List.Mem.tail _ (List.Mem.tail _ (List.Mem.tail _ (List.Mem.tail _ (List.Mem.tail _ (List.Mem.tail _ (List.Mem.tail _ (List.Mem.tail _ (List.Mem.tail _ (List.Mem.tail _ (List.Mem.head _)))))))))))))))))
  have b_len : mg "len" = none := He.free_ok X Gm (Y.t.d.facts (f := .free "len") (List.mem_append_left _ (List.mem_append_right _ (List.Mem.tail _ (List.Mem.tail _ (List.Mem.tail _ (List.Mem.tail _ (List.Mem.tail _ (List.Mem.tail _ (List.Mem.tail _ (List.Mem.tail _ (List.Mem.tail _ (List.Mem.tail _ (List.Mem.tail _ (List.Mem.tail _ (List.Mem.tail _ (List.Mem.tail _ (List.Mem.head _))))))))))))))))))
  have b_bool : mg "bool" = none := He.free_ok X Gm (Y.t.d.facts (f := .free "bool") (List.mem_append_left _ (List.mem_append_right _ (List.Mem.tail _ (List.Mem.tail _ (List.Mem.tail _ (List.Mem.tail _ (List.Mem.tail _ (List.Mem.tail _ (List.Mem.tail _ (List.Mem.tail _ (List.Mem.tail _ (List.Mem.tail _ (List.Mem.tail _ (List.Mem.tail _ (List.Mem.tail _ (List.Mem.tail _ (List.Mem.tail _ (List.Mem.head _)))))))))))))))))))
  have b_repr : mg "repr" = none := He.free_ok X Gm (Y.t.d.facts (f := .free "repr") (List.mem_append_left _ (List.mem_append_right _ (List.Mem.tail _ (List.Mem.tail _ (List.Mem.tail _ (List.Mem.tail _ (List.Mem.tail _ (List.Mem.tail _ (List.Mem.tail _ (List.Mem.tail _ (List.Mem.tail _ (List.Mem.tail _ (List.Mem.tail _ (List.Mem.tail _ (List.Mem.tail _ (List.Mem.tail _ (List.Mem.tail _ (List.Mem.tail _ (List.Mem.head _))))))))))))))))))))
  have b_range : mg "range" = none := He.free_ok X Gm (Y.t.d.facts (f := .free "range") (List.mem_append_left _ (List.mem_append_right _ (List.Mem.tail _ (List.Mem.tail _ (List.Mem.tail _ (List.Mem.tail _ (List.Mem.tail _ (List.Mem.tail _ (List.Mem.tail _ (List.Mem.tail _ (List.Mem.tail _ (List.Mem.tail _ (List.Mem.tail _ (List.Mem.tail _ (List.Mem.tail _ (List.Mem.tail _ (List.Mem.tail _ (List.Mem.tail _ (List.Mem.tail _ (List.Mem.head _)))))))))))))))))))))
  have n_EXPONENT : ∃ t, mg "EXPONENT" = some (.int 12 t) := He.int_ok X Gm (Y.t.d.facts (f := .int "EXPONENT" 12) (List.mem_append_left _ (List.mem_append_right _ (List.Mem.tail _ (List.Mem.tail _ (List.Mem.tail _ (List.Mem.tail _ (List.Mem.tail _ (List.Mem.tail _ (List.Mem.tail _ (List.Mem.tail _ (List.Mem.tail _ (List.Mem.tail _ (List.Mem.tail _ (List.Mem.tail _ (List.Mem.tail _ (List.Mem.tail _ (List.Mem.tail _ (List.Mem.tail _ (List.Mem.tail _ (List.Mem.tail _ (List.Mem.head _))))))))))))))))))))))
  have x_InvalidStretch : ExcK ⟨K, mg, tabsOf tf K⟩ "InvalidStretch" := ⟨_, g_InvalidStretch, (He.exc_ok (Y.t.d.facts (f := .exc "InvalidStretch") (List.mem_append_left _ (List.mem_append_right _ (List.Mem.tail _ (List.Mem.tail _ (List.Mem.tail _ (List.Mem.tail _ (List.Mem.tail _ (List.Mem.tail _ (List.Mem.tail _ (List.Mem.tail _ (List.Mem.tail _ (List.Mem.tail _ (List.Mem.tail _ (List.Mem.tail _ (List.Mem.tail _ (List.Mem.tail _ (List.Mem.tail _ (List.Mem.tail _ (List.Mem.tail _ (List.Mem.tail _ (List.Mem.tail _ (List.Mem.head _)))))))))))))))))))))))).1, (He.exc_ok (Y.t.d.facts (f := .exc "InvalidStretch") (List.mem_append_left _ (List.mem_append_right _ (List.Mem.tail _ (List.Mem.tail _ (List.Mem.tail _ (List.Mem.tail _ (List.Mem.tail _ (List.Mem.tail _ (List.Mem.tail _ (List.Mem.tail _ (List.Mem.tail _ (List.Mem.tail _ (List.Mem.tail _ (List.Mem.tail _ (List.Mem.tail _ (List.Mem.tail _ (List.Mem.tail _ (List.Mem.tail _ (List.Mem.tail _ (List.Mem.tail _ (List.Mem.tail _ (List.Mem.head _)))))))))))))))))))))))).2.1, (He.exc_ok (Y.t.d.facts (f := .exc "InvalidStretch") (List.mem_append_left _ (List.mem_append_right _ (List.Mem.tail _ (List.Mem.tail _ (List.Mem.tail _ (List.Mem.tail _ (List.Mem.tail _ (List.Mem.tail _ (List.Mem.tail _ (List.Mem.tail _ (List.Mem.tail _ (List.Mem.tail _ (List.Mem.tail _ (List.Mem.tail _ (List.Mem.tail _ (List.Mem.tail _ (List.Mem.tail _ (List.Mem.tail _ (List.Mem.tail _ (List.Mem.tail _ (List.Mem.tail _ (List.Mem.head _)))))))))))))))))))))))).2.2.1, (He.exc_ok (Y.t.d.facts (f := .exc "InvalidStretch") (List.mem_append_left _ (List.mem_append_right _ (List.Mem.tail _ (List.Mem.tail _ (List.Mem.tail _ (List.Mem.tail _ (List.Mem.tail _ (List.Mem.tail _ (List.Mem.tail _ (List.Mem.tail _ (List.Mem.tail _ (List.Mem.tail _ (List.Mem.tail _ (List.Mem.tail _ (List.Mem.tail _ (List.Mem.tail _ (List.Mem.tail _ (List.Mem.tail _ (List.Mem.tail _ (List.Mem.tail _ (List.Mem.tail _ (List.Mem.head _)))))))))))))))))))))))).2.2.2⟩
  have x_InvalidNumber : ExcK ⟨K, mg, tabsOf tf K⟩ "InvalidNumber" := ⟨_, g_InvalidNumber, (He.exc_ok (Y.t.d.facts (f := .exc "InvalidNumber") (List.mem_append_left _ (List.mem_append_right _ (List.Mem.tail _ (List.Mem.tail _ (List.Mem.tail _ (List.Mem.tail _ (List.Mem.tail _ (List.Mem.tail _ (List.Mem.tail _ (List.Mem.tail _ (List.Mem.tail _ (List.Mem.tail _ (List.Mem.tail _ (List.Mem.tail _ (List.Mem.tail _ (List.Mem.tail _ (List.Mem.tail _ (List.Mem.tail _ (List.Mem.tail _ (List.Mem.tail _ (List.Mem.tail _ (List.Mem.tail _ (List.Mem.head _))))))))))))))))))))))))).1, (He.exc_ok (Y.t.d.facts (f := .exc "InvalidNumber") (List.mem_append_left _ (List.mem_append_right _ (List.Mem.tail _ (List.Mem.tail _ (List.Mem.tail _ (List.Mem.tail _ (List.Mem.tail _ (List.Mem.tail _ (List.Mem.tail _ (List.Mem.tail _ (List.Mem.tail _ (List.Mem.tail _ (List.Mem.tail _ (List.Mem.tail _ (List.Mem.tail _ (List.Mem.tail _ (List.Mem.tail _ (List.Mem.tail _ (List.Mem.tail _ (List.Mem.tail _ (List.Mem.tail _ (List.Mem.tail _ (List.Mem.head _))))))))))))))))))))))))).2.1, (He.exc_ok (Y.t.d.facts (f := .exc "InvalidNumber") (List.mem_append_left _ (List.mem_append_right _ (List.Mem.tail _ (List.Mem.tail _ (List.Mem.tail _ (List.Mem.tail _ (List.Mem.tail _ (List.Mem.tail _ (List.Mem.tail _ (List.Mem.tail _ (List.Mem.tail _ (List.Mem.tail _ (List.Mem.tail _ (List.Mem.tail _ (List.Mem.tail _ (List.Mem.tail _ (List.Mem.tail _ (List.Mem.tail _ (List.Mem.tail _ (List.Mem.tail _ (List.Mem.tail _ (List.Mem.tail _ (List.Mem.head _))))))))))))))))))))))))).2.2.1, (He.exc_ok (Y.t.d.facts (f := .exc "InvalidNumber") (List.mem_append_left _ (List.mem_append_right _ (List.Mem.tail _ (List.Mem.tail _ (List.Mem.tail _ (List.Mem.tail _ (List.Mem.tail _ (List.Mem.tail _ (List.Mem.tail _ (List.Mem.tail _ (List.Mem.tail _ (List.Mem.tail _ (List.Mem.tail _ (List.Mem.tail _ (List.Mem.tail _ (List.Mem.tail _ (List.Mem.tail _ (List.Mem.tail _ (List.Mem.tail _ (List.Mem.tail _ (List.Mem.tail _ (List.Mem.tail _ (List.Mem.head _))))))))))))))))))))))))).2.2.2⟩
  have exx := Y.more
  unfold ex at exx
  simp only [Bool.and_eq_true] at exx
  have f_gcd : mg "gcd" = some (.builtin "math.gcd") := PySem.W.mg_of X Gm (He.eqO_ok exx.2.1)
  have t_NONE : TupK ⟨K, mg, tabsOf tf K⟩ "NONE" [.int 0, .int 1] := ⟨_, [.int 0, .int 1], g_NONE, fun H => He.tupB_ok (vs := [.int 0, .int 1]) exx.2.2.1 H, ⟨rfl, ⟨rfl, True.intro⟩⟩⟩
  have t_ONE : TupK ⟨K, mg, tabsOf tf K⟩ "ONE" [.int 1, .int 1] := ⟨_, [.int 1, .int 1], g_ONE, fun H => He.tupB_ok (vs := [.int 1, .int 1]) exx.2.2.2 H, ⟨rfl, ⟨rfl, True.intro⟩⟩⟩
  obtain ⟨fd__law_cup, D__law_cup⟩ := defs_fun (st := st_law_cup) Y.t.d (x := "_law_cup") (List.Mem.head _)
  obtain ⟨fd_is_less, D_is_less⟩ := defs_fun (st := stis_less) Y.t.d (x := "is_less") (List.Mem.tail _ (List.Mem.head _))
  obtain ⟨fd_is_tuple_of, D_is_tuple_of⟩ := defs_fun (st := stis_tuple_of) Y.t.d (x := "is_tuple_of") (List.Mem.tail _ (List.Mem.tail _ (List.Mem.head _)))
  obtain ⟨fd_is_integer, D_is_integer⟩ := defs_fun (st := stis_integer) Y.t.d (x := "is_integer") (List.Mem.tail _ (List.Mem.tail _ (List.Mem.tail _ (List.Mem.head _))))
  obtain ⟨fd_fits_any, D_fits_any⟩ := defs_fun (st := stfits_any) Y.t.d (x := "fits_any") (List.Mem.tail _ (List.Mem.tail _ (List.Mem.tail _ (List.Mem.tail _ (List.Mem.head _)))))
  obtain ⟨fd_fits_stretch, D_fits_stretch⟩ := defs_fun (st := stfits_stretch) Y.t.d (x := "fits_stretch") (List.Mem.tail _ (List.Mem.tail _ (List.Mem.tail _ (List.Mem.tail _ (List.Mem.tail _ (List.Mem.head _))))))
  obtain ⟨fd_need_stretch, D_need_stretch⟩ := defs_fun (st := stneed_stretch) Y.t.d (x := "need_stretch") (List.Mem.tail _ (List.Mem.tail _ (List.Mem.tail _ (List.Mem.tail _ (List.Mem.tail _ (List.Mem.tail _ (List.Mem.head _)))))))
  obtain ⟨fd_need_two, D_need_two⟩ := defs_fun (st := stneed_two) Y.t.d (x := "need_two") (List.Mem.tail _ (List.Mem.tail _ (List.Mem.tail _ (List.Mem.tail _ (List.Mem.tail _ (List.Mem.tail _ (List.Mem.tail _ (List.Mem.head _))))))))
  obtain ⟨fd_made, D_made⟩ := defs_fun (st := stmade) Y.t.d (x := "made") (List.Mem.tail _ (List.Mem.tail _ (List.Mem.tail _ (List.Mem.tail _ (List.Mem.tail _ (List.Mem.tail _ (List.Mem.tail _ (List.Mem.tail _ (List.Mem.head _)))))))))
  obtain ⟨fd_plus, D_plus⟩ := defs_fun (st := stplus) Y.t.d (x := "plus") (List.Mem.tail _ (List.Mem.tail _ (List.Mem.tail _ (List.Mem.tail _ (List.Mem.tail _ (List.Mem.tail _ (List.Mem.tail _ (List.Mem.tail _ (List.Mem.tail _ (List.Mem.head _))))))))))
  obtain ⟨fd_sum_by, D_sum_by⟩ := defs_fun (st := stsum_by) Y.t.d (x := "sum_by") (List.Mem.tail _ (List.Mem.tail _ (List.Mem.tail _ (List.Mem.tail _ (List.Mem.tail _ (List.Mem.tail _ (List.Mem.tail _ (List.Mem.tail _ (List.Mem.tail _ (List.Mem.tail _ (List.Mem.head _)))))))))))
  obtain ⟨fd_sum_of, D_sum_of⟩ := defs_fun (st := stsum_of) Y.t.d (x := "sum_of") (List.Mem.tail _ (List.Mem.tail _ (List.Mem.tail _ (List.Mem.tail _ (List.Mem.tail _ (List.Mem.tail _ (List.Mem.tail _ (List.Mem.tail _ (List.Mem.tail _ (List.Mem.tail _ (List.Mem.tail _ (List.Mem.head _))))))))))))
  obtain ⟨fd_minus, D_minus⟩ := defs_fun (st := stminus) Y.t.d (x := "minus") (List.Mem.tail _ (List.Mem.tail _ (List.Mem.tail _ (List.Mem.tail _ (List.Mem.tail _ (List.Mem.tail _ (List.Mem.tail _ (List.Mem.tail _ (List.Mem.tail _ (List.Mem.tail _ (List.Mem.tail _ (List.Mem.tail _ (List.Mem.head _)))))))))))))
  obtain ⟨fd_less, D_less⟩ := defs_fun (st := stless) Y.t.d (x := "less") (List.Mem.tail _ (List.Mem.tail _ (List.Mem.tail _ (List.Mem.tail _ (List.Mem.tail _ (List.Mem.tail _ (List.Mem.tail _ (List.Mem.tail _ (List.Mem.tail _ (List.Mem.tail _ (List.Mem.tail _ (List.Mem.tail _ (List.Mem.tail _ (List.Mem.head _))))))))))))))
  obtain ⟨fd_difference_by, D_difference_by⟩ := defs_fun (st := stdifference_by) Y.t.d (x := "difference_by") (List.Mem.tail _ (List.Mem.tail _ (List.Mem.tail _ (List.Mem.tail _ (List.Mem.tail _ (List.Mem.tail _ (List.Mem.tail _ (List.Mem.tail _ (List.Mem.tail _ (List.Mem.tail _ (List.Mem.tail _ (List.Mem.tail _ (List.Mem.tail _ (List.Mem.tail _ (List.Mem.head _)))))))))))))))
  obtain ⟨fd_difference_of, D_difference_of⟩ := defs_fun (st := stdifference_of) Y.t.d (x := "difference_of") (List.Mem.tail _ (List.Mem.tail _ (List.Mem.tail _ (List.Mem.tail _ (List.Mem.tail _ (List.Mem.tail _ (List.Mem.tail _ (List.Mem.tail _ (List.Mem.tail _ (List.Mem.tail _ (List.Mem.tail _ (List.Mem.tail _ (List.Mem.tail _ (List.Mem.tail _ (List.Mem.tail _ (List.Mem.head _))))))))))))))))
  obtain ⟨fd_least, D_least⟩ := defs_fun (st := stleast) Y.t.d (x := "least") (List.Mem.tail _ (List.Mem.tail _ (List.Mem.tail _ (List.Mem.tail _ (List.Mem.tail _ (List.Mem.tail _ (List.Mem.tail _ (List.Mem.tail _ (List.Mem.tail _ (List.Mem.tail _ (List.Mem.tail _ (List.Mem.tail _ (List.Mem.tail _ (List.Mem.tail _ (List.Mem.tail _ (List.Mem.tail _ (List.Mem.head _)))))))))))))))))
  obtain ⟨fd_most, D_most⟩ := defs_fun (st := stmost) Y.t.d (x := "most") (List.Mem.tail _ (List.Mem.tail _ (List.Mem.tail _ (List.Mem.tail _ (List.Mem.tail _ (List.Mem.tail _ (List.Mem.tail _ (List.Mem.tail _ (List.Mem.tail _ (List.Mem.tail _ (List.Mem.tail _ (List.Mem.tail _ (List.Mem.tail _ (List.Mem.tail _ (List.Mem.tail _ (List.Mem.tail _ (List.Mem.tail _ (List.Mem.head _))))))))))))))))))
  obtain ⟨fd_hull, D_hull⟩ := defs_fun (st := sthull) Y.t.d (x := "hull") (List.Mem.tail _ (List.Mem.tail _ (List.Mem.tail _ (List.Mem.tail _ (List.Mem.tail _ (List.Mem.tail _ (List.Mem.tail _ (List.Mem.tail _ (List.Mem.tail _ (List.Mem.tail _ (List.Mem.tail _ (List.Mem.tail _ (List.Mem.tail _ (List.Mem.tail _ (List.Mem.tail _ (List.Mem.tail _ (List.Mem.tail _ (List.Mem.tail _ (List.Mem.head _)))))))))))))))))))
  obtain ⟨fd_times, D_times⟩ := defs_fun (st := sttimes) Y.t.d (x := "times") (List.Mem.tail _ (List.Mem.tail _ (List.Mem.tail _ (List.Mem.tail _ (List.Mem.tail _ (List.Mem.tail _ (List.Mem.tail _ (List.Mem.tail _ (List.Mem.tail _ (List.Mem.tail _ (List.Mem.tail _ (List.Mem.tail _ (List.Mem.tail _ (List.Mem.tail _ (List.Mem.tail _ (List.Mem.tail _ (List.Mem.tail _ (List.Mem.tail _ (List.Mem.tail _ (List.Mem.head _))))))))))))))))))))
  obtain ⟨fd_product_by, D_product_by⟩ := defs_fun (st := stproduct_by) Y.t.d (x := "product_by") (List.Mem.tail _ (List.Mem.tail _ (List.Mem.tail _ (List.Mem.tail _ (List.Mem.tail _ (List.Mem.tail _ (List.Mem.tail _ (List.Mem.tail _ (List.Mem.tail _ (List.Mem.tail _ (List.Mem.tail _ (List.Mem.tail _ (List.Mem.tail _ (List.Mem.tail _ (List.Mem.tail _ (List.Mem.tail _ (List.Mem.tail _ (List.Mem.tail _ (List.Mem.tail _ (List.Mem.tail _ (List.Mem.head _)))))))))))))))))))))
  obtain ⟨fd_product_of, D_product_of⟩ := defs_fun (st := stproduct_of) Y.t.d (x := "product_of") (List.Mem.tail _ (List.Mem.tail _ (List.Mem.tail _ (List.Mem.tail _ (List.Mem.tail _ (List.Mem.tail _ (List.Mem.tail _ (List.Mem.tail _ (List.Mem.tail _ (List.Mem.tail _ (List.Mem.tail _ (List.Mem.tail _ (List.Mem.tail _ (List.Mem.tail _ (List.Mem.tail _ (List.Mem.tail _ (List.Mem.tail _ (List.Mem.tail _ (List.Mem.tail _ (List.Mem.tail _ (List.Mem.tail _ (List.Mem.head _))))))))))))))))))))))
  obtain ⟨fd_is_in, D_is_in⟩ := defs_fun (st := stis_in) Y.t.d (x := "is_in") (List.Mem.tail _ (List.Mem.tail _ (List.Mem.tail _ (List.Mem.tail _ (List.Mem.tail _ (List.Mem.tail _ (List.Mem.tail _ (List.Mem.tail _ (List.Mem.tail _ (List.Mem.tail _ (List.Mem.tail _ (List.Mem.tail _ (List.Mem.tail _ (List.Mem.tail _ (List.Mem.tail _ (List.Mem.tail _ (List.Mem.tail _ (List.Mem.tail _ (List.Mem.tail _ (List.Mem.tail _ (List.Mem.tail _ (List.Mem.tail _ (List.Mem.head _)))))))))))))))))))))))
  obtain ⟨fd_inverse, D_inverse⟩ := defs_fun (st := stinverse) Y.t.d (x := "inverse") (List.Mem.tail _ (List.Mem.tail _ (List.Mem.tail _ (List.Mem.tail _ (List.Mem.tail _ (List.Mem.tail _ (List.Mem.tail _ (List.Mem.tail _ (List.Mem.tail _ (List.Mem.tail _ (List.Mem.tail _ (List.Mem.tail _ (List.Mem.tail _ (List.Mem.tail _ (List.Mem.tail _ (List.Mem.tail _ (List.Mem.tail _ (List.Mem.tail _ (List.Mem.tail _ (List.Mem.tail _ (List.Mem.tail _ (List.Mem.tail _ (List.Mem.tail _ (List.Mem.head _))))))))))))))))))))))))
  obtain ⟨fd_quotient_by, D_quotient_by⟩ := defs_fun (st := stquotient_by) Y.t.d (x := "quotient_by") (List.Mem.tail _ (List.Mem.tail _ (List.Mem.tail _ (List.Mem.tail _ (List.Mem.tail _ (List.Mem.tail _ (List.Mem.tail _ (List.Mem.tail _ (List.Mem.tail _ (List.Mem.tail _ (List.Mem.tail _ (List.Mem.tail _ (List.Mem.tail _ (List.Mem.tail _ (List.Mem.tail _ (List.Mem.tail _ (List.Mem.tail _ (List.Mem.tail _ (List.Mem.tail _ (List.Mem.tail _ (List.Mem.tail _ (List.Mem.tail _ (List.Mem.tail _ (List.Mem.tail _ (List.Mem.head _)))))))))))))))))))))))))
  obtain ⟨fd_quotient_of, D_quotient_of⟩ := defs_fun (st := stquotient_of) Y.t.d (x := "quotient_of") (List.Mem.tail _ (List.Mem.tail _ (List.Mem.tail _ (List.Mem.tail _ (List.Mem.tail _ (List.Mem.tail _ (List.Mem.tail _ (List.Mem.tail _ (List.Mem.tail _ (List.Mem.tail _ (List.Mem.tail _ (List.Mem.tail _ (List.Mem.tail _ (List.Mem.tail _ (List.Mem.tail _ (List.Mem.tail _ (List.Mem.tail _ (List.Mem.tail _ (List.Mem.tail _ (List.Mem.tail _ (List.Mem.tail _ (List.Mem.tail _ (List.Mem.tail _ (List.Mem.tail _ (List.Mem.tail _ (List.Mem.head _))))))))))))))))))))))))))
  obtain ⟨fd_least_by, D_least_by⟩ := defs_fun (st := stleast_by) Y.t.d (x := "least_by") (List.Mem.tail _ (List.Mem.tail _ (List.Mem.tail _ (List.Mem.tail _ (List.Mem.tail _ (List.Mem.tail _ (List.Mem.tail _ (List.Mem.tail _ (List.Mem.tail _ (List.Mem.tail _ (List.Mem.tail _ (List.Mem.tail _ (List.Mem.tail _ (List.Mem.tail _ (List.Mem.tail _ (List.Mem.tail _ (List.Mem.tail _ (List.Mem.tail _ (List.Mem.tail _ (List.Mem.tail _ (List.Mem.tail _ (List.Mem.tail _ (List.Mem.tail _ (List.Mem.tail _ (List.Mem.tail _ (List.Mem.tail _ (List.Mem.head _)))))))))))))))))))))))))))
  obtain ⟨fd_least_of, D_least_of⟩ := defs_fun (st := stleast_of) Y.t.d (x := "least_of") (List.Mem.tail _ (List.Mem.tail _ (List.Mem.tail _ (List.Mem.tail _ (List.Mem.tail _ (List.Mem.tail _ (List.Mem.tail _ (List.Mem.tail _ (List.Mem.tail _ (List.Mem.tail _ (List.Mem.tail _ (List.Mem.tail _ (List.Mem.tail _ (List.Mem.tail _ (List.Mem.tail _ (List.Mem.tail _ (List.Mem.tail _ (List.Mem.tail _ (List.Mem.tail _ (List.Mem.tail _ (List.Mem.tail _ (List.Mem.tail _ (List.Mem.tail _ (List.Mem.tail _ (List.Mem.tail _ (List.Mem.tail _ (List.Mem.tail _ (List.Mem.head _))))))))))))))))))))))))))))
  obtain ⟨fd_most_by, D_most_by⟩ := defs_fun (st := stmost_by) Y.t.d (x := "most_by") (List.Mem.tail _ (List.Mem.tail _ (List.Mem.tail _ (List.Mem.tail _ (List.Mem.tail _ (List.Mem.tail _ (List.Mem.tail _ (List.Mem.tail _ (List.Mem.tail _ (List.Mem.tail _ (List.Mem.tail _ (List.Mem.tail _ (List.Mem.tail _ (List.Mem.tail _ (List.Mem.tail _ (List.Mem.tail _ (List.Mem.tail _ (List.Mem.tail _ (List.Mem.tail _ (List.Mem.tail _ (List.Mem.tail _ (List.Mem.tail _ (List.Mem.tail _ (List.Mem.tail _ (List.Mem.tail _ (List.Mem.tail _ (List.Mem.tail _ (List.Mem.tail _ (List.Mem.head _)))))))))))))))))))))))))))))
  obtain ⟨fd_most_of, D_most_of⟩ := defs_fun (st := stmost_of) Y.t.d (x := "most_of") (List.Mem.tail _ (List.Mem.tail _ (List.Mem.tail _ (List.Mem.tail _ (List.Mem.tail _ (List.Mem.tail _ (List.Mem.tail _ (List.Mem.tail _ (List.Mem.tail _ (List.Mem.tail _ (List.Mem.tail _ (List.Mem.tail _ (List.Mem.tail _ (List.Mem.tail _ (List.Mem.tail _ (List.Mem.tail _ (List.Mem.tail _ (List.Mem.tail _ (List.Mem.tail _ (List.Mem.tail _ (List.Mem.tail _ (List.Mem.tail _ (List.Mem.tail _ (List.Mem.tail _ (List.Mem.tail _ (List.Mem.tail _ (List.Mem.tail _ (List.Mem.tail _ (List.Mem.tail _ (List.Mem.head _))))))))))))))))))))))))))))))
  obtain ⟨fd_minus_by, D_minus_by⟩ := defs_fun (st := stminus_by) Y.t.d (x := "minus_by") (List.Mem.tail _ (List.Mem.tail _ (List.Mem.tail _ (List.Mem.tail _ (List.Mem.tail _ (List.Mem.tail _ (List.Mem.tail _ (List.Mem.tail _ (List.Mem.tail _ (List.Mem.tail _ (List.Mem.tail _ (List.Mem.tail _ (List.Mem.tail _ (List.Mem.tail _ (List.Mem.tail _ (List.Mem.tail _ (List.Mem.tail _ (List.Mem.tail _ (List.Mem.tail _ (List.Mem.tail _ (List.Mem.tail _ (List.Mem.tail _ (List.Mem.tail _ (List.Mem.tail _ (List.Mem.tail _ (List.Mem.tail _ (List.Mem.tail _ (List.Mem.tail _ (List.Mem.tail _ (List.Mem.tail _ (List.Mem.head _)))))))))))))))))))))))))))))))
  obtain ⟨fd_minus_of, D_minus_of⟩ := defs_fun (st := stminus_of) Y.t.d (x := "minus_of") (List.Mem.tail _ (List.Mem.tail _ (List.Mem.tail _ (List.Mem.tail _ (List.Mem.tail _ (List.Mem.tail _ (List.Mem.tail _ (List.Mem.tail _ (List.Mem.tail _ (List.Mem.tail _ (List.Mem.tail _ (List.Mem.tail _ (List.Mem.tail _ (List.Mem.tail _ (List.Mem.tail _ (List.Mem.tail _ (List.Mem.tail _ (List.Mem.tail _ (List.Mem.tail _ (List.Mem.tail _ (List.Mem.tail _ (List.Mem.tail _ (List.Mem.tail _ (List.Mem.tail _ (List.Mem.tail _ (List.Mem.tail _ (List.Mem.tail _ (List.Mem.tail _ (List.Mem.tail _ (List.Mem.tail _ (List.Mem.tail _ (List.Mem.head _))))))))))))))))))))))))))))))))
  obtain ⟨fd_amount_by, D_amount_by⟩ := defs_fun (st := stamount_by) Y.t.d (x := "amount_by") (List.Mem.tail _ (List.Mem.tail _ (List.Mem.tail _ (List.Mem.tail _ (List.Mem.tail _ (List.Mem.tail _ (List.Mem.tail _ (List.Mem.tail _ (List.Mem.tail _ (List.Mem.tail _ (List.Mem.tail _ (List.Mem.tail _ (List.Mem.tail _ (List.Mem.tail _ (List.Mem.tail _ (List.Mem.tail _ (List.Mem.tail _ (List.Mem.tail _ (List.Mem.tail _ (List.Mem.tail _ (List.Mem.tail _ (List.Mem.tail _ (List.Mem.tail _ (List.Mem.tail _ (List.Mem.tail _ (List.Mem.tail _ (List.Mem.tail _ (List.Mem.tail _ (List.Mem.tail _ (List.Mem.tail _ (List.Mem.tail _ (List.Mem.tail _ (List.Mem.head _)))))))))))))))))))))))))))))))))
  obtain ⟨fd_amount_of, D_amount_of⟩ := defs_fun (st := stamount_of) Y.t.d (x := "amount_of") (List.Mem.tail _ (List.Mem.tail _ (List.Mem.tail _ (List.Mem.tail _ (List.Mem.tail _ (List.Mem.tail _ (List.Mem.tail _ (List.Mem.tail _ (List.Mem.tail _ (List.Mem.tail _ (List.Mem.tail _ (List.Mem.tail _ (List.Mem.tail _ (List.Mem.tail _ (List.Mem.tail _ (List.Mem.tail _ (List.Mem.tail _ (List.Mem.tail _ (List.Mem.tail _ (List.Mem.tail _ (List.Mem.tail _ (List.Mem.tail _ (List.Mem.tail _ (List.Mem.tail _ (List.Mem.tail _ (List.Mem.tail _ (List.Mem.tail _ (List.Mem.tail _ (List.Mem.tail _ (List.Mem.tail _ (List.Mem.tail _ (List.Mem.tail _ (List.Mem.tail _ (List.Mem.head _))))))))))))))))))))))))))))))))))
  obtain ⟨fd_is_whole, D_is_whole⟩ := defs_fun (st := stis_whole) Y.t.d (x := "is_whole") (List.Mem.tail _ (List.Mem.tail _ (List.Mem.tail _ (List.Mem.tail _ (List.Mem.tail _ (List.Mem.tail _ (List.Mem.tail _ (List.Mem.tail _ (List.Mem.tail _ (List.Mem.tail _ (List.Mem.tail _ (List.Mem.tail _ (List.Mem.tail _ (List.Mem.tail _ (List.Mem.tail _ (List.Mem.tail _ (List.Mem.tail _ (List.Mem.tail _ (List.Mem.tail _ (List.Mem.tail _ (List.Mem.tail _ (List.Mem.tail _ (List.Mem.tail _ (List.Mem.tail _ (List.Mem.tail _ (List.Mem.tail _ (List.Mem.tail _ (List.Mem.tail _ (List.Mem.tail _ (List.Mem.tail _ (List.Mem.tail _ (List.Mem.tail _ (List.Mem.tail _ (List.Mem.tail _ (List.Mem.head _)))))))))))))))))))))))))))))))))))
  obtain ⟨fd_need_whole, D_need_whole⟩ := defs_fun (st := stneed_whole) Y.t.d (x := "need_whole") (List.Mem.tail _ (List.Mem.tail _ (List.Mem.tail _ (List.Mem.tail _ (List.Mem.tail _ (List.Mem.tail _ (List.Mem.tail _ (List.Mem.tail _ (List.Mem.tail _ (List.Mem.tail _ (List.Mem.tail _ (List.Mem.tail _ (List.Mem.tail _ (List.Mem.tail _ (List.Mem.tail _ (List.Mem.tail _ (List.Mem.tail _ (List.Mem.tail _ (List.Mem.tail _ (List.Mem.tail _ (List.Mem.tail _ (List.Mem.tail _ (List.Mem.tail _ (List.Mem.tail _ (List.Mem.tail _ (List.Mem.tail _ (List.Mem.tail _ (List.Mem.tail _ (List.Mem.tail _ (List.Mem.tail _ (List.Mem.tail _ (List.Mem.tail _ (List.Mem.tail _ (List.Mem.tail _ (List.Mem.tail _ (List.Mem.head _))))))))))))))))))))))))))))))))))))
  obtain ⟨fd_raised, D_raised⟩ := defs_fun (st := straised) Y.t.d (x := "raised") (List.Mem.tail _ (List.Mem.tail _ (List.Mem.tail _ (List.Mem.tail _ (List.Mem.tail _ (List.Mem.tail _ (List.Mem.tail _ (List.Mem.tail _ (List.Mem.tail _ (List.Mem.tail _ (List.Mem.tail _ (List.Mem.tail _ (List.Mem.tail _ (List.Mem.tail _ (List.Mem.tail _ (List.Mem.tail _ (List.Mem.tail _ (List.Mem.tail _ (List.Mem.tail _ (List.Mem.tail _ (List.Mem.tail _ (List.Mem.tail _ (List.Mem.tail _ (List.Mem.tail _ (List.Mem.tail _ (List.Mem.tail _ (List.Mem.tail _ (List.Mem.tail _ (List.Mem.tail _ (List.Mem.tail _ (List.Mem.tail _ (List.Mem.tail _ (List.Mem.tail _ (List.Mem.tail _ (List.Mem.tail _ (List.Mem.tail _ (List.Mem.head _)))))))))))))))))))))))))))))))))))))
  obtain ⟨fd_power_by, D_power_by⟩ := defs_fun (st := stpower_by) Y.t.d (x := "power_by") (List.Mem.tail _ (List.Mem.tail _ (List.Mem.tail _ (List.Mem.tail _ (List.Mem.tail _ (List.Mem.tail _ (List.Mem.tail _ (List.Mem.tail _ (List.Mem.tail _ (List.Mem.tail _ (List.Mem.tail _ (List.Mem.tail _ (List.Mem.tail _ (List.Mem.tail _ (List.Mem.tail _ (List.Mem.tail _ (List.Mem.tail _ (List.Mem.tail _ (List.Mem.tail _ (List.Mem.tail _ (List.Mem.tail _ (List.Mem.tail _ (List.Mem.tail _ (List.Mem.tail _ (List.Mem.tail _ (List.Mem.tail _ (List.Mem.tail _ (List.Mem.tail _ (List.Mem.tail _ (List.Mem.tail _ (List.Mem.tail _ (List.Mem.tail _ (List.Mem.tail _ (List.Mem.tail _ (List.Mem.tail _ (List.Mem.tail _ (List.Mem.tail _ (List.Mem.head _))))))))))))))))))))))))))))))))))))))
  obtain ⟨fd_power_of, D_power_of⟩ := defs_fun (st := stpower_of) Y.t.d (x := "power_of") (List.Mem.tail _ (List.Mem.tail _ (List.Mem.tail _ (List.Mem.tail _ (List.Mem.tail _ (List.Mem.tail _ (List.Mem.tail _ (List.Mem.tail _ (List.Mem.tail _ (List.Mem.tail _ (List.Mem.tail _ (List.Mem.tail _ (List.Mem.tail _ (List.Mem.tail _ (List.Mem.tail _ (List.Mem.tail _ (List.Mem.tail _ (List.Mem.tail _ (List.Mem.tail _ (List.Mem.tail _ (List.Mem.tail _ (List.Mem.tail _ (List.Mem.tail _ (List.Mem.tail _ (List.Mem.tail _ (List.Mem.tail _ (List.Mem.tail _ (List.Mem.tail _ (List.Mem.tail _ (List.Mem.tail _ (List.Mem.tail _ (List.Mem.tail _ (List.Mem.tail _ (List.Mem.tail _ (List.Mem.tail _ (List.Mem.tail _ (List.Mem.tail _ (List.Mem.tail _ (List.Mem.head _)))))))))))))))))))))))))))))))))))))))
  obtain ⟨fd__law_same, D__law_same⟩ := defs_fun (st := st_law_same) Y.t.d (x := "_law_same") (List.Mem.tail _ (List.Mem.tail _ (List.Mem.tail _ (List.Mem.tail _ (List.Mem.tail _ (List.Mem.tail _ (List.Mem.tail _ (List.Mem.tail _ (List.Mem.tail _ (List.Mem.tail _ (List.Mem.tail _ (List.Mem.tail _ (List.Mem.tail _ (List.Mem.tail _ (List.Mem.tail _ (List.Mem.tail _ (List.Mem.tail _ (List.Mem.tail _ (List.Mem.tail _ (List.Mem.tail _ (List.Mem.tail _ (List.Mem.tail _ (List.Mem.tail _ (List.Mem.tail _ (List.Mem.tail _ (List.Mem.tail _ (List.Mem.tail _ (List.Mem.tail _ (List.Mem.tail _ (List.Mem.tail _ (List.Mem.tail _ (List.Mem.tail _ (List.Mem.tail _ (List.Mem.tail _ (List.Mem.tail _ (List.Mem.tail _ (List.Mem.tail _ (List.Mem.tail _ (List.Mem.tail _ (List.Mem.head _))))))))))))))))))))))))))))))))))))))))
  obtain ⟨fd__law_common, D__law_common⟩ := defs_fun (st := st_law_common) Y.t.d (x := "_law_common") (List.Mem.tail _ (List.Mem.tail _ (List.Mem.tail _ (List.Mem.tail _ (List.Mem.tail _ (List.Mem.tail _ (List.Mem.tail _ (List.Mem.tail _ (List.Mem.tail _ (List.Mem.tail _ (List.Mem.tail _ (List.Mem.tail _ (List.Mem.tail _ (List.Mem.tail _ (List.Mem.tail _ (List.Mem.tail _ (List.Mem.tail _ (List.Mem.tail _ (List.Mem.tail _ (List.Mem.tail _ (List.Mem.tail _ (List.Mem.tail _ (List.Mem.tail _ (List.Mem.tail _ (List.Mem.tail _ (List.Mem.tail _ (List.Mem.tail _ (List.Mem.tail _ (List.Mem.tail _ (List.Mem.tail _ (List.Mem.tail _ (List.Mem.tail _ (List.Mem.tail _ (List.Mem.tail _ (List.Mem.tail _ (List.Mem.tail _ (List.Mem.tail _ (List.Mem.tail _ (List.Mem.tail _ (List.Mem.tail _ (List.Mem.head _)))))))))))))))))))))))))))))))))))))))))
  obtain ⟨fd__law_made, D__law_made⟩ := defs_fun (st := st_law_made) Y.t.d (x := "_law_made") (List.Mem.tail _ (List.Mem.tail _ (List.Mem.tail _ (List.Mem.tail _ (List.Mem.tail _ (List.Mem.tail _ (List.Mem.tail _ (List.Mem.tail _ (List.Mem.tail _ (List.Mem.tail _ (List.Mem.tail _ (List.Mem.tail _ (List.Mem.tail _ (List.Mem.tail _ (List.Mem.tail _ (List.Mem.tail _ (List.Mem.tail _ (List.Mem.tail _ (List.Mem.tail _ (List.Mem.tail _ (List.Mem.tail _ (List.Mem.tail _ (List.Mem.tail _ (List.Mem.tail _ (List.Mem.tail _ (List.Mem.tail _ (List.Mem.tail _ (List.Mem.tail _ (List.Mem.tail _ (List.Mem.tail _ (List.Mem.tail _ (List.Mem.tail _ (List.Mem.tail _ (List.Mem.tail _ (List.Mem.tail _ (List.Mem.tail _ (List.Mem.tail _ (List.Mem.tail _ (List.Mem.tail _ (List.Mem.tail _ (List.Mem.tail _ (List.Mem.head _))))))))))))))))))))))))))))))))))))))))))
  obtain ⟨fd__law_roll, D__law_roll⟩ := defs_fun (st := st_law_roll) Y.t.d (x := "_law_roll") (List.Mem.tail _ (List.Mem.tail _ (List.Mem.tail _ (List.Mem.tail _ (List.Mem.tail _ (List.Mem.tail _ (List.Mem.tail _ (List.Mem.tail _ (List.Mem.tail _ (List.Mem.tail _ (List.Mem.tail _ (List.Mem.tail _ (List.Mem.tail _ (List.Mem.tail _ (List.Mem.tail _ (List.Mem.tail _ (List.Mem.tail _ (List.Mem.tail _ (List.Mem.tail _ (List.Mem.tail _ (List.Mem.tail _ (List.Mem.tail _ (List.Mem.tail _ (List.Mem.tail _ (List.Mem.tail _ (List.Mem.tail _ (List.Mem.tail _ (List.Mem.tail _ (List.Mem.tail _ (List.Mem.tail _ (List.Mem.tail _ (List.Mem.tail _ (List.Mem.tail _ (List.Mem.tail _ (List.Mem.tail _ (List.Mem.tail _ (List.Mem.tail _ (List.Mem.tail _ (List.Mem.tail _ (List.Mem.tail _ (List.Mem.tail _ (List.Mem.tail _ (List.Mem.head _)))))))))))))))))))))))))))))))))))))))))))
  obtain ⟨fd__law_some, D__law_some⟩ := defs_fun (st := st_law_some) Y.t.d (x := "_law_some") (List.Mem.tail _ (List.Mem.tail _ (List.Mem.tail _ (List.Mem.tail _ (List.Mem.tail _ (List.Mem.tail _ (List.Mem.tail _ (List.Mem.tail _ (List.Mem.tail _ (List.Mem.tail _ (List.Mem.tail _ (List.Mem.tail _ (List.Mem.tail _ (List.Mem.tail _ (List.Mem.tail _ (List.Mem.tail _ (List.Mem.tail _ (List.Mem.tail _ (List.Mem.tail _ (List.Mem.tail _ (List.Mem.tail _ (List.Mem.tail _ (List.Mem.tail _ (List.Mem.tail _ (List.Mem.tail _ (List.Mem.tail _ (List.Mem.tail _ (List.Mem.tail _ (List.Mem.tail _ (List.Mem.tail _ (List.Mem.tail _ (List.Mem.tail _ (List.Mem.tail _ (List.Mem.tail _ (List.Mem.tail _ (List.Mem.tail _ (List.Mem.tail _ (List.Mem.tail _ (List.Mem.tail _ (List.Mem.tail _ (List.Mem.tail _ (List.Mem.tail _ (List.Mem.tail _ (List.Mem.head _))))))))))))))))))))))))))))))))))))))))))))
  obtain ⟨fd__law_any, D__law_any⟩ := defs_fun (st := st_law_any) Y.t.d (x := "_law_any") (List.Mem.tail _ (List.Mem.tail _ (List.Mem.tail _ (List.Mem.tail _ (List.Mem.tail _ (List.Mem.tail _ (List.Mem.tail _ (List.Mem.tail _ (List.Mem.tail _ (List.Mem.tail _ (List.Mem.tail _ (List.Mem.tail _ (List.Mem.tail _ (List.Mem.tail _ (List.Mem.tail _ (List.Mem.tail _ (List.Mem.tail _ (List.Mem.tail _ (List.Mem.tail _ (List.Mem.tail _ (List.Mem.tail _ (List.Mem.tail _ (List.Mem.tail _ (List.Mem.tail _ (List.Mem.tail _ (List.Mem.tail _ (List.Mem.tail _ (List.Mem.tail _ (List.Mem.tail _ (List.Mem.tail _ (List.Mem.tail _ (List.Mem.tail _ (List.Mem.tail _ (List.Mem.tail _ (List.Mem.tail _ (List.Mem.tail _ (List.Mem.tail _ (List.Mem.tail _ (List.Mem.tail _ (List.Mem.tail _ (List.Mem.tail _ (List.Mem.tail _ (List.Mem.tail _ (List.Mem.tail _ (List.Mem.head _)))))))))))))))))))))))))))))))))))))))))))))
  obtain ⟨fd__law_is_less, D__law_is_less⟩ := defs_fun (st := st_law_is_less) Y.t.d (x := "_law_is_less") (List.Mem.tail _ (List.Mem.tail _ (List.Mem.tail _ (List.Mem.tail _ (List.Mem.tail _ (List.Mem.tail _ (List.Mem.tail _ (List.Mem.tail _ (List.Mem.tail _ (List.Mem.tail _ (List.Mem.tail _ (List.Mem.tail _ (List.Mem.tail _ (List.Mem.tail _ (List.Mem.tail _ (List.Mem.tail _ (List.Mem.tail _ (List.Mem.tail _ (List.Mem.tail _ (List.Mem.tail _ (List.Mem.tail _ (List.Mem.tail _ (List.Mem.tail _ (List.Mem.tail _ (List.Mem.tail _ (List.Mem.tail _ (List.Mem.tail _ (List.Mem.tail _ (List.Mem.tail _ (List.Mem.tail _ (List.Mem.tail _ (List.Mem.tail _ (List.Mem.tail _ (List.Mem.tail _ (List.Mem.tail _ (List.Mem.tail _ (List.Mem.tail _ (List.Mem.tail _ (List.Mem.tail _ (List.Mem.tail _ (List.Mem.tail _ (List.Mem.tail _ (List.Mem.tail _ (List.Mem.tail _ (List.Mem.tail _ (List.Mem.head _))))))))))))))))))))))))))))))))))))))))))))))
  obtain ⟨fd__law_order, D__law_order⟩ := defs_fun (st := st_law_order) Y.t.d (x := "_law_order") (List.Mem.tail _ (List.Mem.tail _ (List.Mem.tail _ (List.Mem.tail _ (List.Mem.tail _ (List.Mem.tail _ (List.Mem.tail _ (List.Mem.tail _ (List.Mem.tail _ (List.Mem.tail _ (List.Mem.tail _ (List.Mem.tail _ (List.Mem.tail _ (List.Mem.tail _ (List.Mem.tail _ (List.Mem.tail _ (List.Mem.tail _ (List.Mem.tail _ (List.Mem.tail _ (List.Mem.tail _ (List.Mem.tail _ (List.Mem.tail _ (List.Mem.tail _ (List.Mem.tail _ (List.Mem.tail _ (List.Mem.tail _ (List.Mem.tail _ (List.Mem.tail _ (List.Mem.tail _ (List.Mem.tail _ (List.Mem.tail _ (List.Mem.tail _ (List.Mem.tail _ (List.Mem.tail _ (List.Mem.tail _ (List.Mem.tail _ (List.Mem.tail _ (List.Mem.tail _ (List.Mem.tail _ (List.Mem.tail _ (List.Mem.tail _ (List.Mem.tail _ (List.Mem.tail _ (List.Mem.tail _ (List.Mem.tail _ (List.Mem.tail _ (List.Mem.head _)))))))))))))))))))))))))))))))))))))))))))))))
  obtain ⟨fd__law_stretch, D__law_stretch⟩ := defs_fun (st := st_law_stretch) Y.t.d (x := "_law_stretch") (List.Mem.tail _ (List.Mem.tail _ (List.Mem.tail _ (List.Mem.tail _ (List.Mem.tail _ (List.Mem.tail _ (List.Mem.tail _ (List.Mem.tail _ (List.Mem.tail _ (List.Mem.tail _ (List.Mem.tail _ (List.Mem.tail _ (List.Mem.tail _ (List.Mem.tail _ (List.Mem.tail _ (List.Mem.tail _ (List.Mem.tail _ (List.Mem.tail _ (List.Mem.tail _ (List.Mem.tail _ (List.Mem.tail _ (List.Mem.tail _ (List.Mem.tail _ (List.Mem.tail _ (List.Mem.tail _ (List.Mem.tail _ (List.Mem.tail _ (List.Mem.tail _ (List.Mem.tail _ (List.Mem.tail _ (List.Mem.tail _ (List.Mem.tail _ (List.Mem.tail _ (List.Mem.tail _ (List.Mem.tail _ (List.Mem.tail _ (List.Mem.tail _ (List.Mem.tail _ (List.Mem.tail _ (List.Mem.tail _ (List.Mem.tail _ (List.Mem.tail _ (List.Mem.tail _ (List.Mem.tail _ (List.Mem.tail _ (List.Mem.tail _ (List.Mem.tail _ (List.Mem.head _))))))))))))))))))))))))))))))))))))))))))))))))
  obtain ⟨fd__law_in, D__law_in⟩ := defs_fun (st := st_law_in) Y.t.d (x := "_law_in") (List.Mem.tail _ (List.Mem.tail _ (List.Mem.tail _ (List.Mem.tail _ (List.Mem.tail _ (List.Mem.tail _ (List.Mem.tail _ (List.Mem.tail _ (List.Mem.tail _ (List.Mem.tail _ (List.Mem.tail _ (List.Mem.tail _ (List.Mem.tail _ (List.Mem.tail _ (List.Mem.tail _ (List.Mem.tail _ (List.Mem.tail _ (List.Mem.tail _ (List.Mem.tail _ (List.Mem.tail _ (List.Mem.tail _ (List.Mem.tail _ (List.Mem.tail _ (List.Mem.tail _ (List.Mem.tail _ (List.Mem.tail _ (List.Mem.tail _ (List.Mem.tail _ (List.Mem.tail _ (List.Mem.tail _ (List.Mem.tail _ (List.Mem.tail _ (List.Mem.tail _ (List.Mem.tail _ (List.Mem.tail _ (List.Mem.tail _ (List.Mem.tail _ (List.Mem.tail _ (List.Mem.tail _ (List.Mem.tail _ (List.Mem.tail _ (List.Mem.tail _ (List.Mem.tail _ (List.Mem.tail _ (List.Mem.tail _ (List.Mem.tail _ (List.Mem.tail _ (List.Mem.tail _ (List.Mem.head _)))))))))))))))))))))))))))))))))))))))))))))))))
  obtain ⟨fd__law_minus, D__law_minus⟩ := defs_fun (st := st_law_minus) Y.t.d (x := "_law_minus") (List.Mem.tail _ (List.Mem.tail _ (List.Mem.tail _ (List.Mem.tail _ (List.Mem.tail _ (List.Mem.tail _ (List.Mem.tail _ (List.Mem.tail _ (List.Mem.tail _ (List.Mem.tail _ (List.Mem.tail _ (List.Mem.tail _ (List.Mem.tail _ (List.Mem.tail _ (List.Mem.tail _ (List.Mem.tail _ (List.Mem.tail _ (List.Mem.tail _ (List.Mem.tail _ (List.Mem.tail _ (List.Mem.tail _ (List.Mem.tail _ (List.Mem.tail _ (List.Mem.tail _ (List.Mem.tail _ (List.Mem.tail _ (List.Mem.tail _ (List.Mem.tail _ (List.Mem.tail _ (List.Mem.tail _ (List.Mem.tail _ (List.Mem.tail _ (List.Mem.tail _ (List.Mem.tail _ (List.Mem.tail _ (List.Mem.tail _ (List.Mem.tail _ (List.Mem.tail _ (List.Mem.tail _ (List.Mem.tail _ (List.Mem.tail _ (List.Mem.tail _ (List.Mem.tail _ (List.Mem.tail _ (List.Mem.tail _ (List.Mem.tail _ (List.Mem.tail _ (List.Mem.tail _ (List.Mem.tail _ (List.Mem.head _))))))))))))))))))))))))))))))))))))))))))))))))))
  obtain ⟨fd__law_plus, D__law_plus⟩ := defs_fun (st := st_law_plus) Y.t.d (x := "_law_plus") (List.Mem.tail _ (List.Mem.tail _ (List.Mem.tail _ (List.Mem.tail _ (List.Mem.tail _ (List.Mem.tail _ (List.Mem.tail _ (List.Mem.tail _ (List.Mem.tail _ (List.Mem.tail _ (List.Mem.tail _ (List.Mem.tail _ (List.Mem.tail _ (List.Mem.tail _ (List.Mem.tail _ (List.Mem.tail _ (List.Mem.tail _ (List.Mem.tail _ (List.Mem.tail _ (List.Mem.tail _ (List.Mem.tail _ (List.Mem.tail _ (List.Mem.tail _ (List.Mem.tail _ (List.Mem.tail _ (List.Mem.tail _ (List.Mem.tail _ (List.Mem.tail _ (List.Mem.tail _ (List.Mem.tail _ (List.Mem.tail _ (List.Mem.tail _ (List.Mem.tail _ (List.Mem.tail _ (List.Mem.tail _ (List.Mem.tail _ (List.Mem.tail _ (List.Mem.tail _ (List.Mem.tail _ (List.Mem.tail _ (List.Mem.tail _ (List.Mem.tail _ (List.Mem.tail _ (List.Mem.tail _ (List.Mem.tail _ (List.Mem.tail _ (List.Mem.tail _ (List.Mem.tail _ (List.Mem.tail _ (List.Mem.tail _ (List.Mem.head _)))))))))))))))))))))))))))))))))))))))))))))))))))
  obtain ⟨fd__law_times, D__law_times⟩ := defs_fun (st := st_law_times) Y.t.d (x := "_law_times") (List.Mem.tail _ (List.Mem.tail _ (List.Mem.tail _ (List.Mem.tail _ (List.Mem.tail _ (List.Mem.tail _ (List.Mem.tail _ (List.Mem.tail _ (List.Mem.tail _ (List.Mem.tail _ (List.Mem.tail _ (List.Mem.tail _ (List.Mem.tail _ (List.Mem.tail _ (List.Mem.tail _ (List.Mem.tail _ (List.Mem.tail _ (List.Mem.tail _ (List.Mem.tail _ (List.Mem.tail _ (List.Mem.tail _ (List.Mem.tail _ (List.Mem.tail _ (List.Mem.tail _ (List.Mem.tail _ (List.Mem.tail _ (List.Mem.tail _ (List.Mem.tail _ (List.Mem.tail _ (List.Mem.tail _ (List.Mem.tail _ (List.Mem.tail _ (List.Mem.tail _ (List.Mem.tail _ (List.Mem.tail _ (List.Mem.tail _ (List.Mem.tail _ (List.Mem.tail _ (List.Mem.tail _ (List.Mem.tail _ (List.Mem.tail _ (List.Mem.tail _ (List.Mem.tail _ (List.Mem.tail _ (List.Mem.tail _ (List.Mem.tail _ (List.Mem.tail _ (List.Mem.tail _ (List.Mem.tail _ (List.Mem.tail _ (List.Mem.tail _ (List.Mem.head _))))))))))))))))))))))))))))))))))))))))))))))))))))
  obtain ⟨fd__law_by, D__law_by⟩ := defs_fun (st := st_law_by) Y.t.d (x := "_law_by") (List.Mem.tail _ (List.Mem.tail _ (List.Mem.tail _ (List.Mem.tail _ (List.Mem.tail _ (List.Mem.tail _ (List.Mem.tail _ (List.Mem.tail _ (List.Mem.tail _ (List.Mem.tail _ (List.Mem.tail _ (List.Mem.tail _ (List.Mem.tail _ (List.Mem.tail _ (List.Mem.tail _ (List.Mem.tail _ (List.Mem.tail _ (List.Mem.tail _ (List.Mem.tail _ (List.Mem.tail _ (List.Mem.tail _ (List.Mem.tail _ (List.Mem.tail _ (List.Mem.tail _ (List.Mem.tail _ (List.Mem.tail _ (List.Mem.tail _ (List.Mem.tail _ (List.Mem.tail _ (List.Mem.tail _ (List.Mem.tail _ (List.Mem.tail _ (List.Mem.tail _ (List.Mem.tail _ (List.Mem.tail _ (List.Mem.tail _ (List.Mem.tail _ (List.Mem.tail _ (List.Mem.tail _ (List.Mem.tail _ (List.Mem.tail _ (List.Mem.tail _ (List.Mem.tail _ (List.Mem.tail _ (List.Mem.tail _ (List.Mem.tail _ (List.Mem.tail _ (List.Mem.tail _ (List.Mem.tail _ (List.Mem.tail _ (List.Mem.tail _ (List.Mem.tail _ (List.Mem.head _)))))))))))))))))))))))))))))))))))))))))))))))))))))
  obtain ⟨fd__law_lesser, D__law_lesser⟩ := defs_fun (st := st_law_lesser) Y.t.d (x := "_law_lesser") (List.Mem.tail _ (List.Mem.tail _ (List.Mem.tail _ (List.Mem.tail _ (List.Mem.tail _ (List.Mem.tail _ (List.Mem.tail _ (List.Mem.tail _ (List.Mem.tail _ (List.Mem.tail _ (List.Mem.tail _ (List.Mem.tail _ (List.Mem.tail _ (List.Mem.tail _ (List.Mem.tail _ (List.Mem.tail _ (List.Mem.tail _ (List.Mem.tail _ (List.Mem.tail _ (List.Mem.tail _ (List.Mem.tail _ (List.Mem.tail _ (List.Mem.tail _ (List.Mem.tail _ (List.Mem.tail _ (List.Mem.tail _ (List.Mem.tail _ (List.Mem.tail _ (List.Mem.tail _ (List.Mem.tail _ (List.Mem.tail _ (List.Mem.tail _ (List.Mem.tail _ (List.Mem.tail _ (List.Mem.tail _ (List.Mem.tail _ (List.Mem.tail _ (List.Mem.tail _ (List.Mem.tail _ (List.Mem.tail _ (List.Mem.tail _ (List.Mem.tail _ (List.Mem.tail _ (List.Mem.tail _ (List.Mem.tail _ (List.Mem.tail _ (List.Mem.tail _ (List.Mem.tail _ (List.Mem.tail _ (List.Mem.tail _ (List.Mem.tail _ (List.Mem.tail _ (List.Mem.tail _ (List.Mem.head _))))))))))))))))))))))))))))))))))))))))))))))))))))))
  obtain ⟨fd__law_greater, D__law_greater⟩ := defs_fun (st := st_law_greater) Y.t.d (x := "_law_greater") (List.Mem.tail _ (List.Mem.tail _ (List.Mem.tail _ (List.Mem.tail _ (List.Mem.tail _ (List.Mem.tail _ (List.Mem.tail _ (List.Mem.tail _ (List.Mem.tail _ (List.Mem.tail _ (List.Mem.tail _ (List.Mem.tail _ (List.Mem.tail _ (List.Mem.tail _ (List.Mem.tail _ (List.Mem.tail _ (List.Mem.tail _ (List.Mem.tail _ (List.Mem.tail _ (List.Mem.tail _ (List.Mem.tail _ (List.Mem.tail _ (List.Mem.tail _ (List.Mem.tail _ (List.Mem.tail _ (List.Mem.tail _ (List.Mem.tail _ (List.Mem.tail _ (List.Mem.tail _ (List.Mem.tail _ (List.Mem.tail _ (List.Mem.tail _ (List.Mem.tail _ (List.Mem.tail _ (List.Mem.tail _ (List.Mem.tail _ (List.Mem.tail _ (List.Mem.tail _ (List.Mem.tail _ (List.Mem.tail _ (List.Mem.tail _ (List.Mem.tail _ (List.Mem.tail _ (List.Mem.tail _ (List.Mem.tail _ (List.Mem.tail _ (List.Mem.tail _ (List.Mem.tail _ (List.Mem.tail _ (List.Mem.tail _ (List.Mem.tail _ (List.Mem.tail _ (List.Mem.tail _ (List.Mem.tail _ (List.Mem.head _)))))))))))))))))))))))))))))))))))))))))))))))))))))))
  obtain ⟨fd__law_hull, D__law_hull⟩ := defs_fun (st := st_law_hull) Y.t.d (x := "_law_hull") (List.Mem.tail _ (List.Mem.tail _ (List.Mem.tail _ (List.Mem.tail _ (List.Mem.tail _ (List.Mem.tail _ (List.Mem.tail _ (List.Mem.tail _ (List.Mem.tail _ (List.Mem.tail _ (List.Mem.tail _ (List.Mem.tail _ (List.Mem.tail _ (List.Mem.tail _ (List.Mem.tail _ (List.Mem.tail _ (List.Mem.tail _ (List.Mem.tail _ (List.Mem.tail _ (List.Mem.tail _ (List.Mem.tail _ (List.Mem.tail _ (List.Mem.tail _ (List.Mem.tail _ (List.Mem.tail _ (List.Mem.tail _ (List.Mem.tail _ (List.Mem.tail _ (List.Mem.tail _ (List.Mem.tail _ (List.Mem.tail _ (List.Mem.tail _ (List.Mem.tail _ (List.Mem.tail _ (List.Mem.tail _ (List.Mem.tail _ (List.Mem.tail _ (List.Mem.tail _ (List.Mem.tail _ (List.Mem.tail _ (List.Mem.tail _ (List.Mem.tail _ (List.Mem.tail _ (List.Mem.tail _ (List.Mem.tail _ (List.Mem.tail _ (List.Mem.tail _ (List.Mem.tail _ (List.Mem.tail _ (List.Mem.tail _ (List.Mem.tail _ (List.Mem.tail _ (List.Mem.tail _ (List.Mem.tail _ (List.Mem.tail _ (List.Mem.head _))))))))))))))))))))))))))))))))))))))))))))))))))))))))
  obtain ⟨fd__law_pairs, D__law_pairs⟩ := defs_fun (st := st_law_pairs) Y.t.d (x := "_law_pairs") (List.Mem.tail _ (List.Mem.tail _ (List.Mem.tail _ (List.Mem.tail _ (List.Mem.tail _ (List.Mem.tail _ (List.Mem.tail _ (List.Mem.tail _ (List.Mem.tail _ (List.Mem.tail _ (List.Mem.tail _ (List.Mem.tail _ (List.Mem.tail _ (List.Mem.tail _ (List.Mem.tail _ (List.Mem.tail _ (List.Mem.tail _ (List.Mem.tail _ (List.Mem.tail _ (List.Mem.tail _ (List.Mem.tail _ (List.Mem.tail _ (List.Mem.tail _ (List.Mem.tail _ (List.Mem.tail _ (List.Mem.tail _ (List.Mem.tail _ (List.Mem.tail _ (List.Mem.tail _ (List.Mem.tail _ (List.Mem.tail _ (List.Mem.tail _ (List.Mem.tail _ (List.Mem.tail _ (List.Mem.tail _ (List.Mem.tail _ (List.Mem.tail _ (List.Mem.tail _ (List.Mem.tail _ (List.Mem.tail _ (List.Mem.tail _ (List.Mem.tail _ (List.Mem.tail _ (List.Mem.tail _ (List.Mem.tail _ (List.Mem.tail _ (List.Mem.tail _ (List.Mem.tail _ (List.Mem.tail _ (List.Mem.tail _ (List.Mem.tail _ (List.Mem.tail _ (List.Mem.tail _ (List.Mem.tail _ (List.Mem.tail _ (List.Mem.tail _ (List.Mem.head _)))))))))))))))))))))))))))))))))))))))))))))))))))))))))
  obtain ⟨fd__law_two_right, D__law_two_right⟩ := defs_fun (st := st_law_two_right) Y.t.d (x := "_law_two_right") (List.Mem.tail _ (List.Mem.tail _ (List.Mem.tail _ (List.Mem.tail _ (List.Mem.tail _ (List.Mem.tail _ (List.Mem.tail _ (List.Mem.tail _ (List.Mem.tail _ (List.Mem.tail _ (List.Mem.tail _ (List.Mem.tail _ (List.Mem.tail _ (List.Mem.tail _ (List.Mem.tail _ (List.Mem.tail _ (List.Mem.tail _ (List.Mem.tail _ (List.Mem.tail _ (List.Mem.tail _ (List.Mem.tail _ (List.Mem.tail _ (List.Mem.tail _ (List.Mem.tail _ (List.Mem.tail _ (List.Mem.tail _ (List.Mem.tail _ (List.Mem.tail _ (List.Mem.tail _ (List.Mem.tail _ (List.Mem.tail _ (List.Mem.tail _ (List.Mem.tail _ (List.Mem.tail _ (List.Mem.tail _ (List.Mem.tail _ (List.Mem.tail _ (List.Mem.tail _ (List.Mem.tail _ (List.Mem.tail _ (List.Mem.tail _ (List.Mem.tail _ (List.Mem.tail _ (List.Mem.tail _ (List.Mem.tail _ (List.Mem.tail _ (List.Mem.tail _ (List.Mem.tail _ (List.Mem.tail _ (List.Mem.tail _ (List.Mem.tail _ (List.Mem.tail _ (List.Mem.tail _ (List.Mem.tail _ (List.Mem.tail _ (List.Mem.tail _ (List.Mem.tail _ (List.Mem.head _))))))))))))))))))))))))))))))))))))))))))))))))))))))))))
  obtain ⟨fd__law_raised, D__law_raised⟩ := defs_fun (st := st_law_raised) Y.t.d (x := "_law_raised") (List.Mem.tail _ (List.Mem.tail _ (List.Mem.tail _ (List.Mem.tail _ (List.Mem.tail _ (List.Mem.tail _ (List.Mem.tail _ (List.Mem.tail _ (List.Mem.tail _ (List.Mem.tail _ (List.Mem.tail _ (List.Mem.tail _ (List.Mem.tail _ (List.Mem.tail _ (List.Mem.tail _ (List.Mem.tail _ (List.Mem.tail _ (List.Mem.tail _ (List.Mem.tail _ (List.Mem.tail _ (List.Mem.tail _ (List.Mem.tail _ (List.Mem.tail _ (List.Mem.tail _ (List.Mem.tail _ (List.Mem.tail _ (List.Mem.tail _ (List.Mem.tail _ (List.Mem.tail _ (List.Mem.tail _ (List.Mem.tail _ (List.Mem.tail _ (List.Mem.tail _ (List.Mem.tail _ (List.Mem.tail _ (List.Mem.tail _ (List.Mem.tail _ (List.Mem.tail _ (List.Mem.tail _ (List.Mem.tail _ (List.Mem.tail _ (List.Mem.tail _ (List.Mem.tail _ (List.Mem.tail _ (List.Mem.tail _ (List.Mem.tail _ (List.Mem.tail _ (List.Mem.tail _ (List.Mem.tail _ (List.Mem.tail _ (List.Mem.tail _ (List.Mem.tail _ (List.Mem.tail _ (List.Mem.tail _ (List.Mem.tail _ (List.Mem.tail _ (List.Mem.tail _ (List.Mem.tail _ (List.Mem.head _)))))))))))))))))))))))))))))))))))))))))))))))))))))))))))
  obtain ⟨fd__law_one_right, D__law_one_right⟩ := defs_fun (st := st_law_one_right) Y.t.d (x := "_law_one_right") (List.Mem.tail _ (List.Mem.tail _ (List.Mem.tail _ (List.Mem.tail _ (List.Mem.tail _ (List.Mem.tail _ (List.Mem.tail _ (List.Mem.tail _ (List.Mem.tail _ (List.Mem.tail _ (List.Mem.tail _ (List.Mem.tail _ (List.Mem.tail _ (List.Mem.tail _ (List.Mem.tail _ (List.Mem.tail _ (List.Mem.tail _ (List.Mem.tail _ (List.Mem.tail _ (List.Mem.tail _ (List.Mem.tail _ (List.Mem.tail _ (List.Mem.tail _ (List.Mem.tail _ (List.Mem.tail _ (List.Mem.tail _ (List.Mem.tail _ (List.Mem.tail _ (List.Mem.tail _ (List.Mem.tail _ (List.Mem.tail _ (List.Mem.tail _ (List.Mem.tail _ (List.Mem.tail _ (List.Mem.tail _ (List.Mem.tail _ (List.Mem.tail _ (List.Mem.tail _ (List.Mem.tail _ (List.Mem.tail _ (List.Mem.tail _ (List.Mem.tail _ (List.Mem.tail _ (List.Mem.tail _ (List.Mem.tail _ (List.Mem.tail _ (List.Mem.tail _ (List.Mem.tail _ (List.Mem.tail _ (List.Mem.tail _ (List.Mem.tail _ (List.Mem.tail _ (List.Mem.tail _ (List.Mem.tail _ (List.Mem.tail _ (List.Mem.tail _ (List.Mem.tail _ (List.Mem.tail _ (List.Mem.tail _ (List.Mem.head _))))))))))))))))))))))))))))))))))))))))))))))))))))))))))))
  obtain ⟨fd__law_error, D__law_error⟩ := defs_fun (st := st_law_error) Y.t.d (x := "_law_error") (List.Mem.tail _ (List.Mem.tail _ (List.Mem.tail _ (List.Mem.tail _ (List.Mem.tail _ (List.Mem.tail _ (List.Mem.tail _ (List.Mem.tail _ (List.Mem.tail _ (List.Mem.tail _ (List.Mem.tail _ (List.Mem.tail _ (List.Mem.tail _ (List.Mem.tail _ (List.Mem.tail _ (List.Mem.tail _ (List.Mem.tail _ (List.Mem.tail _ (List.Mem.tail _ (List.Mem.tail _ (List.Mem.tail _ (List.Mem.tail _ (List.Mem.tail _ (List.Mem.tail _ (List.Mem.tail _ (List.Mem.tail _ (List.Mem.tail _ (List.Mem.tail _ (List.Mem.tail _ (List.Mem.tail _ (List.Mem.tail _ (List.Mem.tail _ (List.Mem.tail _ (List.Mem.tail _ (List.Mem.tail _ (List.Mem.tail _ (List.Mem.tail _ (List.Mem.tail _ (List.Mem.tail _ (List.Mem.tail _ (List.Mem.tail _ (List.Mem.tail _ (List.Mem.tail _ (List.Mem.tail _ (List.Mem.tail _ (List.Mem.tail _ (List.Mem.tail _ (List.Mem.tail _ (List.Mem.tail _ (List.Mem.tail _ (List.Mem.tail _ (List.Mem.tail _ (List.Mem.tail _ (List.Mem.tail _ (List.Mem.tail _ (List.Mem.tail _ (List.Mem.tail _ (List.Mem.tail _ (List.Mem.tail _ (List.Mem.tail _ (List.Mem.head _)))))))))))))))))))))))))))))))))))))))))))))))))))))))))))))
  obtain ⟨fd_law, D_law⟩ := defs_fun (st := stlaw) Y.t.d (x := "law") (List.Mem.tail _ (List.Mem.tail _ (List.Mem.tail _ (List.Mem.tail _ (List.Mem.tail _ (List.Mem.tail _ (List.Mem.tail _ (List.Mem.tail _ (List.Mem.tail _ (List.Mem.tail _ (List.Mem.tail _ (List.Mem.tail _ (List.Mem.tail _ (List.Mem.tail _ (List.Mem.tail _ (List.Mem.tail _ (List.Mem.tail _ (List.Mem.tail _ (List.Mem.tail _ (List.Mem.tail _ (List.Mem.tail _ (List.Mem.tail _ (List.Mem.tail _ (List.Mem.tail _ (List.Mem.tail _ (List.Mem.tail _ (List.Mem.tail _ (List.Mem.tail _ (List.Mem.tail _ (List.Mem.tail _ (List.Mem.tail _ (List.Mem.tail _ (List.Mem.tail _ (List.Mem.tail _ (List.Mem.tail _ (List.Mem.tail _ (List.Mem.tail _ (List.Mem.tail _ (List.Mem.tail _ (List.Mem.tail _ (List.Mem.tail _ (List.Mem.tail _ (List.Mem.tail _ (List.Mem.tail _ (List.Mem.tail _ (List.Mem.tail _ (List.Mem.tail _ (List.Mem.tail _ (List.Mem.tail _ (List.Mem.tail _ (List.Mem.tail _ (List.Mem.tail _ (List.Mem.tail _ (List.Mem.tail _ (List.Mem.tail _ (List.Mem.tail _ (List.Mem.tail _ (List.Mem.tail _ (List.Mem.tail _ (List.Mem.tail _ (List.Mem.tail _ (List.Mem.head _))))))))))))))))))))))))))))))))))))))))))))))))))))))))))))))
  have T_law_error : Teller ⟨K, mg, tabsOf tf K⟩ "_law_error" st_law_error w_law_error hs_law_error := by
    refine ⟨g__law_error, ⟨_, D__law_error⟩, fun x r C hw hC Q H hq => ?_, fun q hq => ?_⟩
    · have hm := PySem.mem_of_lookup hw
      simp only [List.mem_cons, Prod.mk.injEq, List.not_mem_nil, or_false] at hm
      rcases hm with ⟨rfl, rfl⟩ | ⟨rfl, rfl⟩ | ⟨rfl, rfl⟩ | ⟨rfl, rfl⟩ | ⟨rfl, rfl⟩
      · have e := hC.symm.trans g_NearError; cases e; exact ⟨false, He.exm_ok (Y.t.d.facts (f := .exm "NearError" "InvalidStretch" false) (List.mem_append_left _ (List.mem_append_right _ (List.Mem.tail _ (List.Mem.tail _ (List.Mem.tail _ (List.Mem.tail _ (List.Mem.tail _ (List.Mem.tail _ (List.Mem.tail _ (List.Mem.tail _ (List.Mem.tail _ (List.Mem.tail _ (List.Mem.tail _ (List.Mem.tail _ (List.Mem.tail _ (List.Mem.tail _ (List.Mem.tail _ (List.Mem.tail _ (List.Mem.tail _ (List.Mem.tail _ (List.Mem.tail _ (List.Mem.tail _ (List.Mem.tail _ (List.Mem.head _))))))))))))))))))))))))), fun z => Bool.noConfusion z, fun _ => ⟨false, He.exm_ok (Y.t.d.facts (f := .exm "NearError" "InvalidFraction" false) (List.mem_append_left _ (List.mem_append_right _ (List.Mem.tail _ (List.Mem.tail _ (List.Mem.tail _ (List.Mem.tail _ (List.Mem.tail _ (List.Mem.tail _ (List.Mem.tail _ (List.Mem.tail _ (List.Mem.tail _ (List.Mem.tail _ (List.Mem.tail _ (List.Mem.tail _ (List.Mem.tail _ (List.Mem.tail _ (List.Mem.tail _ (List.Mem.tail _ (List.Mem.tail _ (List.Mem.tail _ (List.Mem.tail _ (List.Mem.tail _ (List.Mem.tail _ (List.Mem.tail _ (List.Mem.head _)))))))))))))))))))))))))), fun z => Bool.noConfusion z, fun _ => ⟨false, He.exm_ok (Y.t.d.facts (f := .exm "NearError" "InvalidNumber" false) (List.mem_append_left _ (List.mem_append_right _ (List.Mem.tail _ (List.Mem.tail _ (List.Mem.tail _ (List.Mem.tail _ (List.Mem.tail _ (List.Mem.tail _ (List.Mem.tail _ (List.Mem.tail _ (List.Mem.tail _ (List.Mem.tail _ (List.Mem.tail _ (List.Mem.tail _ (List.Mem.tail _ (List.Mem.tail _ (List.Mem.tail _ (List.Mem.tail _ (List.Mem.tail _ (List.Mem.tail _ (List.Mem.tail _ (List.Mem.tail _ (List.Mem.tail _ (List.Mem.tail _ (List.Mem.tail _ (List.Mem.head _))))))))))))))))))))))))))), fun z => Bool.noConfusion z, fun _ => ⟨false, He.exm_ok (Y.t.d.facts (f := .exm "NearError" "InvalidTree" false) (List.mem_append_left _ (List.mem_append_right _ (List.Mem.tail _ (List.Mem.tail _ (List.Mem.tail _ (List.Mem.tail _ (List.Mem.tail _ (List.Mem.tail _ (List.Mem.tail _ (List.Mem.tail _ (List.Mem.tail _ (List.Mem.tail _ (List.Mem.tail _ (List.Mem.tail _ (List.Mem.tail _ (List.Mem.tail _ (List.Mem.tail _ (List.Mem.tail _ (List.Mem.tail _ (List.Mem.tail _ (List.Mem.tail _ (List.Mem.tail _ (List.Mem.tail _ (List.Mem.tail _ (List.Mem.tail _ (List.Mem.tail _ (List.Mem.head _)))))))))))))))))))))))))))), fun z => Bool.noConfusion z, fun _ => ⟨true, He.exm_ok (Y.t.d.facts (f := .exm "NearError" "NearError" true) (List.mem_append_left _ (List.mem_append_right _ (List.Mem.tail _ (List.Mem.tail _ (List.Mem.tail _ (List.Mem.tail _ (List.Mem.tail _ (List.Mem.tail _ (List.Mem.tail _ (List.Mem.tail _ (List.Mem.tail _ (List.Mem.tail _ (List.Mem.tail _ (List.Mem.tail _ (List.Mem.tail _ (List.Mem.tail _ (List.Mem.tail _ (List.Mem.tail _ (List.Mem.tail _ (List.Mem.tail _ (List.Mem.tail _ (List.Mem.tail _ (List.Mem.tail _ (List.Mem.tail _ (List.Mem.tail _ (List.Mem.tail _ (List.Mem.tail _ (List.Mem.head _))))))))))))))))))))))))))))), fun _ => hq, fun z => Bool.noConfusion z⟩⟩⟩⟩⟩
      · have e := hC.symm.trans g_InvalidFraction; cases e; exact ⟨false, He.exm_ok (Y.t.d.facts (f := .exm "InvalidFraction" "InvalidStretch" false) (List.mem_append_left _ (List.mem_append_right _ (List.Mem.tail _ (List.Mem.tail _ (List.Mem.tail _ (List.Mem.tail _ (List.Mem.tail _ (List.Mem.tail _ (List.Mem.tail _ (List.Mem.tail _ (List.Mem.tail _ (List.Mem.tail _ (List.Mem.tail _ (List.Mem.tail _ (List.Mem.tail _ (List.Mem.tail _ (List.Mem.tail _ (List.Mem.tail _ (List.Mem.tail _ (List.Mem.tail _ (List.Mem.tail _ (List.Mem.tail _ (List.Mem.tail _ (List.Mem.tail _ (List.Mem.tail _ (List.Mem.tail _ (List.Mem.tail _ (List.Mem.tail _ (List.Mem.head _)))))))))))))))))))))))))))))), fun z => Bool.noConfusion z, fun _ => ⟨true, He.exm_ok (Y.t.d.facts (f := .exm "InvalidFraction" "InvalidFraction" true) (List.mem_append_left _ (List.mem_append_right _ (List.Mem.tail _ (List.Mem.tail _ (List.Mem.tail _ (List.Mem.tail _ (List.Mem.tail _ (List.Mem.tail _ (List.Mem.tail _ (List.Mem.tail _ (List.Mem.tail _ (List.Mem.tail _ (List.Mem.tail _ (List.Mem.tail _ (List.Mem.tail _ (List.Mem.tail _ (List.Mem.tail _ (List.Mem.tail _ (List.Mem.tail _ (List.Mem.tail _ (List.Mem.tail _ (List.Mem.tail _ (List.Mem.tail _ (List.Mem.tail _ (List.Mem.tail _ (List.Mem.tail _ (List.Mem.tail _ (List.Mem.tail _ (List.Mem.tail _ (List.Mem.head _))))))))))))))))))))))))))))))), fun _ => hq, fun z => Bool.noConfusion z⟩⟩
      · have e := hC.symm.trans g_InvalidTree; cases e; exact ⟨false, He.exm_ok (Y.t.d.facts (f := .exm "InvalidTree" "InvalidStretch" false) (List.mem_append_left _ (List.mem_append_right _ (List.Mem.tail _ (List.Mem.tail _ (List.Mem.tail _ (List.Mem.tail _ (List.Mem.tail _ (List.Mem.tail _ (List.Mem.tail _ (List.Mem.tail _ (List.Mem.tail _ (List.Mem.tail _ (List.Mem.tail _ (List.Mem.tail _ (List.Mem.tail _ (List.Mem.tail _ (List.Mem.tail _ (List.Mem.tail _ (List.Mem.tail _ (List.Mem.tail _ (List.Mem.tail _ (List.Mem.tail _ (List.Mem.tail _ (List.Mem.tail _ (List.Mem.tail _ (List.Mem.tail _ (List.Mem.tail _ (List.Mem.tail _ (List.Mem.tail _ (List.Mem.tail _ (List.Mem.head _)))))))))))))))))))))))))))))))), fun z => Bool.noConfusion z, fun _ => ⟨false, He.exm_ok (Y.t.d.facts (f := .exm "InvalidTree" "InvalidFraction" false) (List.mem_append_left _ (List.mem_append_right _ (List.Mem.tail _ (List.Mem.tail _ (List.Mem.tail _ (List.Mem.tail _ (List.Mem.tail _ (List.Mem.tail _ (List.Mem.tail _ (List.Mem.tail _ (List.Mem.tail _ (List.Mem.tail _ (List.Mem.tail _ (List.Mem.tail _ (List.Mem.tail _ (List.Mem.tail _ (List.Mem.tail _ (List.Mem.tail _ (List.Mem.tail _ (List.Mem.tail _ (List.Mem.tail _ (List.Mem.tail _ (List.Mem.tail _ (List.Mem.tail _ (List.Mem.tail _ (List.Mem.tail _ (List.Mem.tail _ (List.Mem.tail _ (List.Mem.tail _ (List.Mem.tail _ (List.Mem.tail _ (List.Mem.head _))))))))))))))))))))))))))))))))), fun z => Bool.noConfusion z, fun _ => ⟨false, He.exm_ok (Y.t.d.facts (f := .exm "InvalidTree" "InvalidNumber" false) (List.mem_append_right _ (List.Mem.head _))), fun z => Bool.noConfusion z, fun _ => ⟨true, He.exm_ok (Y.t.d.facts (f := .exm "InvalidTree" "InvalidTree" true) (List.mem_append_right _ (List.Mem.tail _ (List.Mem.head _)))), fun _ => hq, fun z => Bool.noConfusion z⟩⟩⟩⟩
      · have e := hC.symm.trans g_InvalidStretch; cases e; exact ⟨true, He.exm_ok (Y.t.d.facts (f := .exm "InvalidStretch" "InvalidStretch" true) (List.mem_append_right _ (List.Mem.tail _ (List.Mem.tail _ (List.Mem.head _))))), fun _ => hq, fun z => Bool.noConfusion z⟩
      · have e := hC.symm.trans g_InvalidNumber; cases e; exact ⟨false, He.exm_ok (Y.t.d.facts (f := .exm "InvalidNumber" "InvalidStretch" false) (List.mem_append_right _ (List.Mem.tail _ (List.Mem.tail _ (List.Mem.tail _ (List.Mem.head _)))))), fun z => Bool.noConfusion z, fun _ => ⟨false, He.exm_ok (Y.t.d.facts (f := .exm "InvalidNumber" "InvalidFraction" false) (List.mem_append_right _ (List.Mem.tail _ (List.Mem.tail _ (List.Mem.tail _ (List.Mem.tail _ (List.Mem.head _))))))), fun z => Bool.noConfusion z, fun _ => ⟨true, He.exm_ok (Y.t.d.facts (f := .exm "InvalidNumber" "InvalidNumber" true) (List.mem_append_right _ (List.Mem.tail _ (List.Mem.tail _ (List.Mem.tail _ (List.Mem.tail _ (List.Mem.tail _ (List.Mem.head _)))))))), fun _ => hq, fun z => Bool.noConfusion z⟩⟩⟩
    · simp only [hs_law_error, List.mem_cons, List.not_mem_nil, or_false] at hq
      rcases hq with rfl | rfl | rfl | rfl | rfl
      · exact g_InvalidStretch
      · exact g_InvalidFraction
      · exact g_InvalidNumber
      · exact g_InvalidTree
      · exact g_NearError
  have h_law_cup : Has P w ⟨K, mg, tabsOf tf K⟩ base "_law_cup" P_law_cup 1 cLCup := has_of (k := 0) (N := N_law_cup) D__law_cup g__law_cup sc_law_cup (by intro kV doc pm an cdv ct us hl; exact match us, hl with | [_], _ => by kernel_rfl)
      (fun cdv A outer s H E _ hr => body_law_cup (b_list := b_list) (b_abs := b_abs) (b_int := b_int) (hr := hr)) (fun ds S Q E _ hc => cup_ok ds S Q E hc)
  have s_law_cup : Ct.sized cLCup P_law_cup.length := (by intro ds S Q E h; (repeat obtain ⟨_, h⟩ := h); subst_vars; rfl)
  have his_less : Has P w ⟨K, mg, tabsOf tf K⟩ base "is_less" Pis_less 1 cLess := has_of (k := 0) (N := Nis_less) D_is_less g_is_less scis_less (by intro kV doc pm an cdv ct us hl; exact match us, hl with | [_, _], _ => by kernel_rfl)
      (fun cdv A outer s H E _ hr => bodyis_less  (hr := hr)) (fun ds S Q E _ hc => less_ok ds S Q E hc)
  have sis_less : Ct.sized cLess Pis_less.length := (by intro ds S Q E h; (repeat obtain ⟨_, h⟩ := h); subst_vars; rfl)
  have his_tuple_of : Has P w ⟨K, mg, tabsOf tf K⟩ base "is_tuple_of" Pis_tuple_of 1 cIsTup := has_of (k := 0) (N := Nis_tuple_of) D_is_tuple_of g_is_tuple_of scis_tuple_of (by intro kV doc pm an cdv ct us hl; exact match us, hl with | [_, _, _], _ => by kernel_rfl)
      (fun cdv A outer s H E _ hr => bodyis_tuple_of (b_tuple := b_tuple) (b_isinstance := b_isinstance) (b_len := b_len) (hr := hr)) (fun ds S Q E _ hc => isTup_ok ds S Q E hc)
  have sis_tuple_of : Ct.sized cIsTup Pis_tuple_of.length := (by intro ds S Q E h; (repeat obtain ⟨_, h⟩ := h); subst_vars; rfl)
  have his_integer : Has P w ⟨K, mg, tabsOf tf K⟩ base "is_integer" Pis_integer 1 cIsInt := has_of (k := 0) (N := Nis_integer) D_is_integer g_is_integer scis_integer (by intro kV doc pm an cdv ct us hl; exact match us, hl with | [_], _ => by kernel_rfl)
      (fun cdv A outer s H E _ hr => bodyis_integer (b_int := b_int) (b_isinstance := b_isinstance) (b_bool := b_bool) (hr := hr)) (fun ds S Q E _ hc => isInt_ok ds S Q E hc)
  have sis_integer : Ct.sized cIsInt Pis_integer.length := (by intro ds S Q E h; (repeat obtain ⟨_, h⟩ := h); subst_vars; rfl)
  have hfits_any : Has P w ⟨K, mg, tabsOf tf K⟩ base "fits_any" Pfits_any 2 cAny := has_of (k := 1) (N := Nfits_any) D_fits_any g_fits_any scfits_any (by intro kV doc pm an cdv ct us hl; exact match us, hl with | [_], _ => by kernel_rfl)
      (fun cdv A outer s H E _ hr => bodyfits_any (f_gcd := f_gcd) (his_tuple_of := his_tuple_of) (sis_tuple_of := sis_tuple_of) (lis_tuple_of := by decide) (his_integer := his_integer) (sis_integer := sis_integer) (lis_integer := by decide) (hr := hr)) (fun ds S Q E _ hc => any_ok ds S Q E hc)
  have sfits_any : Ct.sized cAny Pfits_any.length := (by intro ds S Q E h; (repeat obtain ⟨_, h⟩ := h); subst_vars; rfl)
  have hfits_stretch : Has P w ⟨K, mg, tabsOf tf K⟩ base "fits_stretch" Pfits_stretch 3 cStr := has_of (k := 2) (N := Nfits_stretch) D_fits_stretch g_fits_stretch scfits_stretch (by intro kV doc pm an cdv ct us hl; exact match us, hl with | [_], _ => by kernel_rfl)
      (fun cdv A outer s H E _ hr => bodyfits_stretch (his_tuple_of := his_tuple_of) (sis_tuple_of := sis_tuple_of) (lis_tuple_of := by decide) (hfits_any := hfits_any) (sfits_any := sfits_any) (lfits_any := by decide) (his_less := his_less) (sis_less := sis_less) (lis_less := by decide) (hr := hr)) (fun ds S Q E _ hc => str_ok ds S Q E hc)
  have sfits_stretch : Ct.sized cStr Pfits_stretch.length := (by intro ds S Q E h; (repeat obtain ⟨_, h⟩ := h); subst_vars; rfl)
  have hneed_stretch : Has P w ⟨K, mg, tabsOf tf K⟩ base "need_stretch" Pneed_stretch 4 cNeedSt := has_of (k := 3) (N := Nneed_stretch) D_need_stretch g_need_stretch scneed_stretch (by intro kV doc pm an cdv ct us hl; exact match us, hl with | [_], _ => by kernel_rfl)
      (fun cdv A outer s H E _ hr => bodyneed_stretch (x_InvalidStretch := x_InvalidStretch) (hfits_stretch := hfits_stretch) (sfits_stretch := sfits_stretch) (lfits_stretch := by decide) (hr := hr)) (fun ds S Q E _ hc => needSt_ok ds S Q E hc)
  have sneed_stretch : Ct.sized cNeedSt Pneed_stretch.length := (by intro ds S Q E h; (repeat obtain ⟨_, h⟩ := h); subst_vars; rfl)
  have hneed_two : Has P w ⟨K, mg, tabsOf tf K⟩ base "need_two" Pneed_two 5 cNeedTwo := has_of (k := 4) (N := Nneed_two) D_need_two g_need_two scneed_two (by intro kV doc pm an cdv ct us hl; exact match us, hl with | [_, _], _ => by kernel_rfl)
      (fun cdv A outer s H E _ hr => bodyneed_two (hneed_stretch := hneed_stretch) (sneed_stretch := sneed_stretch) (lneed_stretch := by decide) (hr := hr)) (fun ds S Q E _ hc => needTwo_ok ds S Q E hc)
  have sneed_two : Ct.sized cNeedTwo Pneed_two.length := (by intro ds S Q E h; (repeat obtain ⟨_, h⟩ := h); subst_vars; rfl)
  have hmade : Has P w ⟨K, mg, tabsOf tf K⟩ base "made" Pmade 1 cMadeQ := has_of (k := 0) (N := Nmade) D_made g_made scmade (by intro kV doc pm an cdv ct us hl; exact match us, hl with | [_, _], _ => by kernel_rfl)
      (fun cdv A outer s H E _ hr => bodymade (f_gcd := f_gcd) (hr := hr)) (fun ds S Q E _ hc => madeQ_ok ds S Q E hc)
  have smade : Ct.sized cMadeQ Pmade.length := (by intro ds S Q E h; (repeat obtain ⟨_, h⟩ := h); subst_vars; rfl)
  have hplus : Has P w ⟨K, mg, tabsOf tf K⟩ base "plus" Pplus 2 cPlusR := has_of (k := 1) (N := Nplus) D_plus g_plus scplus (by intro kV doc pm an cdv ct us hl; exact match us, hl with | [_, _], _ => by kernel_rfl)
      (fun cdv A outer s H E _ hr => bodyplus (hmade := (Has.imp hmade (fun _ _ _ _ z => made_imp z))) (smade := (show Ct.sized cMade Pmade.length from (by intro ds S Q E h; (repeat obtain ⟨_, h⟩ := h); subst_vars; rfl))) (lmade := by decide) (hr := hr)) (fun ds S Q E _ hc => plus_okR ds S Q E hc)
  have splus : Ct.sized cPlusR Pplus.length := (by intro ds S Q E h; (repeat obtain ⟨_, h⟩ := h); subst_vars; rfl)
  have hsum_by : Has P w ⟨K, mg, tabsOf tf K⟩ base "sum_by" Psum_by 3 (cBy2 sumF) := has_of (k := 2) (N := Nsum_by) D_sum_by g_sum_by scsum_by (by intro kV doc pm an cdv ct us hl; exact match us, hl with | [_, _], _ => by kernel_rfl)
      (fun cdv A outer s H E _ hr => bodysum_by (hplus := hplus) (splus := splus) (lplus := by decide) (hr := hr)) (fun ds S Q E _ hc => sumby_ok ds S Q E hc)
  have ssum_by : Ct.sized (cBy2 sumF) Psum_by.length := (by intro ds S Q E h; (repeat obtain ⟨_, h⟩ := h); subst_vars; rfl)
  have hsum_of : Has P w ⟨K, mg, tabsOf tf K⟩ base "sum_of" Psum_of 6 (cTwo sumF) := has_of (k := 5) (N := Nsum_of) D_sum_of g_sum_of scsum_of (by intro kV doc pm an cdv ct us hl; exact match us, hl with | [_, _], _ => by kernel_rfl)
      (fun cdv A outer s H E _ hr => bodysum_of (hneed_two := hneed_two) (sneed_two := sneed_two) (lneed_two := by decide) (hsum_by := hsum_by) (ssum_by := ssum_by) (lsum_by := by decide) (hr := hr)) (fun ds S Q E _ hc => sum_of_ok ds S Q E hc)
  have ssum_of : Ct.sized (cTwo sumF) Psum_of.length := (by intro ds S Q E h; (repeat obtain ⟨_, h⟩ := h); subst_vars; rfl)
  have hminus : Has P w ⟨K, mg, tabsOf tf K⟩ base "minus" Pminus 1 cMinusR := has_of (k := 0) (N := Nminus) D_minus g_minus scminus (by intro kV doc pm an cdv ct us hl; exact match us, hl with | [_], _ => by kernel_rfl)
      (fun cdv A outer s H E _ hr => bodyminus  (hr := hr)) (fun ds S Q E _ hc => minus_okR ds S Q E hc)
  have sminus : Ct.sized cMinusR Pminus.length := (by intro ds S Q E h; (repeat obtain ⟨_, h⟩ := h); subst_vars; rfl)
  have hless : Has P w ⟨K, mg, tabsOf tf K⟩ base "less" Pless 3 cSubR := has_of (k := 2) (N := Nless) D_less g_less scless (by intro kV doc pm an cdv ct us hl; exact match us, hl with | [_, _], _ => by kernel_rfl)
      (fun cdv A outer s H E _ hr => bodyless (hplus := hplus) (splus := splus) (lplus := by decide) (hminus := hminus) (sminus := sminus) (lminus := by decide) (hr := hr)) (fun ds S Q E _ hc => sub_okR ds S Q E hc)
  have sless : Ct.sized cSubR Pless.length := (by intro ds S Q E h; (repeat obtain ⟨_, h⟩ := h); subst_vars; rfl)
  have hdifference_by : Has P w ⟨K, mg, tabsOf tf K⟩ base "difference_by" Pdifference_by 4 (cBy2 difF) := has_of (k := 3) (N := Ndifference_by) D_difference_by g_difference_by scdifference_by (by intro kV doc pm an cdv ct us hl; exact match us, hl with | [_, _], _ => by kernel_rfl)
      (fun cdv A outer s H E _ hr => bodydifference_by (hless := hless) (sless := sless) (lless := by decide) (hr := hr)) (fun ds S Q E _ hc => difby_ok ds S Q E hc)
  have sdifference_by : Ct.sized (cBy2 difF) Pdifference_by.length := (by intro ds S Q E h; (repeat obtain ⟨_, h⟩ := h); subst_vars; rfl)
  have hdifference_of : Has P w ⟨K, mg, tabsOf tf K⟩ base "difference_of" Pdifference_of 6 (cTwo difF) := has_of (k := 5) (N := Ndifference_of) D_difference_of g_difference_of scdifference_of (by intro kV doc pm an cdv ct us hl; exact match us, hl with | [_, _], _ => by kernel_rfl)
      (fun cdv A outer s H E _ hr => bodydifference_of (hneed_two := hneed_two) (sneed_two := sneed_two) (lneed_two := by decide) (hdifference_by := hdifference_by) (sdifference_by := sdifference_by) (ldifference_by := by decide) (hr := hr)) (fun ds S Q E _ hc => difference_of_ok ds S Q E hc)
  have sdifference_of : Ct.sized (cTwo difF) Pdifference_of.length := (by intro ds S Q E h; (repeat obtain ⟨_, h⟩ := h); subst_vars; rfl)
  have hleast : Has P w ⟨K, mg, tabsOf tf K⟩ base "least" Pleast 2 cMinR := has_of (k := 1) (N := Nleast) D_least g_least scleast (by intro kV doc pm an cdv ct us hl; exact match us, hl with | [_, _], _ => by kernel_rfl)
      (fun cdv A outer s H E _ hr => bodyleast (his_less := (Has.imp his_less (fun _ _ _ _ z => less_imp z))) (sis_less := (show Ct.sized cLessR Pis_less.length from (by intro ds S Q E h; (repeat obtain ⟨_, h⟩ := h); subst_vars; rfl))) (lis_less := by decide) (hr := hr)) (fun ds S Q E _ hc => least_okR ds S Q E hc)
  have sleast : Ct.sized cMinR Pleast.length := (by intro ds S Q E h; (repeat obtain ⟨_, h⟩ := h); subst_vars; rfl)
  have hmost : Has P w ⟨K, mg, tabsOf tf K⟩ base "most" Pmost 2 cMaxR := has_of (k := 1) (N := Nmost) D_most g_most scmost (by intro kV doc pm an cdv ct us hl; exact match us, hl with | [_, _], _ => by kernel_rfl)
      (fun cdv A outer s H E _ hr => bodymost (his_less := (Has.imp his_less (fun _ _ _ _ z => less_imp z))) (sis_less := (show Ct.sized cLessR Pis_less.length from (by intro ds S Q E h; (repeat obtain ⟨_, h⟩ := h); subst_vars; rfl))) (lis_less := by decide) (hr := hr)) (fun ds S Q E _ hc => most_okR ds S Q E hc)
  have smost : Ct.sized cMaxR Pmost.length := (by intro ds S Q E h; (repeat obtain ⟨_, h⟩ := h); subst_vars; rfl)
  have hhull : Has P w ⟨K, mg, tabsOf tf K⟩ base "hull" Phull 3 cHullR := has_of (k := 2) (N := Nhull) D_hull g_hull schull (by intro kV doc pm an cdv ct us hl; exact match us, hl with | [_], _ => by kernel_rfl)
      (fun cdv A outer s H E _ hr => bodyhull (hmost := hmost) (smost := smost) (lmost := by decide) (hleast := hleast) (sleast := sleast) (lleast := by decide) (hr := hr)) (fun ds S Q E _ hc => hull_ok ds S Q E hc)
  have shull : Ct.sized cHullR Phull.length := (by intro ds S Q E h; (repeat obtain ⟨_, h⟩ := h); subst_vars; rfl)
  have htimes : Has P w ⟨K, mg, tabsOf tf K⟩ base "times" Ptimes 2 cTimesR := has_of (k := 1) (N := Ntimes) D_times g_times sctimes (by intro kV doc pm an cdv ct us hl; exact match us, hl with | [_, _], _ => by kernel_rfl)
      (fun cdv A outer s H E _ hr => bodytimes (hmade := (Has.imp hmade (fun _ _ _ _ z => made_imp z))) (smade := (show Ct.sized cMade Pmade.length from (by intro ds S Q E h; (repeat obtain ⟨_, h⟩ := h); subst_vars; rfl))) (lmade := by decide) (hr := hr)) (fun ds S Q E _ hc => times_okR ds S Q E hc)
  have stimes : Ct.sized cTimesR Ptimes.length := (by intro ds S Q E h; (repeat obtain ⟨_, h⟩ := h); subst_vars; rfl)
  have hproduct_by : Has P w ⟨K, mg, tabsOf tf K⟩ base "product_by" Pproduct_by 4 cPro := has_of (k := 3) (N := Nproduct_by) D_product_by g_product_by scproduct_by (by intro kV doc pm an cdv ct us hl; exact match us, hl with | [_, _], _ => by kernel_rfl)
      (fun cdv A outer s H E _ hr => bodyproduct_by (hhull := hhull) (shull := shull) (lhull := by decide) (htimes := htimes) (stimes := stimes) (ltimes := by decide) (hr := hr)) (fun ds S Q E _ hc => proby_ok ds S Q E hc)
  have sproduct_by : Ct.sized cPro Pproduct_by.length := (by intro ds S Q E h; (repeat obtain ⟨_, h⟩ := h); subst_vars; rfl)
  have hproduct_of : Has P w ⟨K, mg, tabsOf tf K⟩ base "product_of" Pproduct_of 6 (cTwo proF) := has_of (k := 5) (N := Nproduct_of) D_product_of g_product_of scproduct_of (by intro kV doc pm an cdv ct us hl; exact match us, hl with | [_, _], _ => by kernel_rfl)
      (fun cdv A outer s H E _ hr => bodyproduct_of (hneed_two := hneed_two) (sneed_two := sneed_two) (lneed_two := by decide) (hproduct_by := hproduct_by) (sproduct_by := sproduct_by) (lproduct_by := by decide) (hr := hr)) (fun ds S Q E _ hc => product_of_ok ds S Q E hc)
  have sproduct_of : Ct.sized (cTwo proF) Pproduct_of.length := (by intro ds S Q E h; (repeat obtain ⟨_, h⟩ := h); subst_vars; rfl)
  have his_in : Has P w ⟨K, mg, tabsOf tf K⟩ base "is_in" Pis_in 2 cInR := has_of (k := 1) (N := Nis_in) D_is_in g_is_in scis_in (by intro kV doc pm an cdv ct us hl; exact match us, hl with | [_, _], _ => by kernel_rfl)
      (fun cdv A outer s H E _ hr => bodyis_in (his_less := (Has.imp his_less (fun _ _ _ _ z => less_imp z))) (sis_less := (show Ct.sized cLessR Pis_less.length from (by intro ds S Q E h; (repeat obtain ⟨_, h⟩ := h); subst_vars; rfl))) (lis_less := by decide) (hr := hr)) (fun ds S Q E _ hc => isin_ok ds S Q E hc)
  have sis_in : Ct.sized cInR Pis_in.length := (by intro ds S Q E h; (repeat obtain ⟨_, h⟩ := h); subst_vars; rfl)
  have hinverse : Has P w ⟨K, mg, tabsOf tf K⟩ base "inverse" Pinverse 2 cInvR := has_of (k := 1) (N := Ninverse) D_inverse g_inverse scinverse (by intro kV doc pm an cdv ct us hl; exact match us, hl with | [_], _ => by kernel_rfl)
      (fun cdv A outer s H E _ hr => bodyinverse (hmade := hmade) (smade := smade) (lmade := by decide) (hr := hr)) (fun ds S Q E _ hc => inv_okR ds S Q E hc)
  have sinverse : Ct.sized cInvR Pinverse.length := (by intro ds S Q E h; (repeat obtain ⟨_, h⟩ := h); subst_vars; rfl)
  have hquotient_by : Has P w ⟨K, mg, tabsOf tf K⟩ base "quotient_by" Pquotient_by 5 (cBy2 quoF) := has_of (k := 4) (N := Nquotient_by) D_quotient_by g_quotient_by scquotient_by (by intro kV doc pm an cdv ct us hl; exact match us, hl with | [_, _], _ => by kernel_rfl)
      (fun cdv A outer s H E _ hr => bodyquotient_by (t_NONE := t_NONE) (his_in := his_in) (sis_in := sis_in) (lis_in := by decide) (hproduct_by := hproduct_by) (sproduct_by := sproduct_by) (lproduct_by := by decide) (hinverse := hinverse) (sinverse := sinverse) (linverse := by decide) (hr := hr)) (fun ds S Q E _ hc => quoby_ok ds S Q E hc)
  have squotient_by : Ct.sized (cBy2 quoF) Pquotient_by.length := (by intro ds S Q E h; (repeat obtain ⟨_, h⟩ := h); subst_vars; rfl)
  have hquotient_of : Has P w ⟨K, mg, tabsOf tf K⟩ base "quotient_of" Pquotient_of 6 (cTwo quoF) := has_of (k := 5) (N := Nquotient_of) D_quotient_of g_quotient_of scquotient_of (by intro kV doc pm an cdv ct us hl; exact match us, hl with | [_, _], _ => by kernel_rfl)
      (fun cdv A outer s H E _ hr => bodyquotient_of (hneed_two := hneed_two) (sneed_two := sneed_two) (lneed_two := by decide) (hquotient_by := hquotient_by) (squotient_by := squotient_by) (lquotient_by := by decide) (hr := hr)) (fun ds S Q E _ hc => quotient_of_ok ds S Q E hc)
  have squotient_of : Ct.sized (cTwo quoF) Pquotient_of.length := (by intro ds S Q E h; (repeat obtain ⟨_, h⟩ := h); subst_vars; rfl)
  have hleast_by : Has P w ⟨K, mg, tabsOf tf K⟩ base "least_by" Pleast_by 3 (cBy2 leaF) := has_of (k := 2) (N := Nleast_by) D_least_by g_least_by scleast_by (by intro kV doc pm an cdv ct us hl; exact match us, hl with | [_, _], _ => by kernel_rfl)
      (fun cdv A outer s H E _ hr => bodyleast_by (hleast := hleast) (sleast := sleast) (lleast := by decide) (hr := hr)) (fun ds S Q E _ hc => leaby_ok ds S Q E hc)
  have sleast_by : Ct.sized (cBy2 leaF) Pleast_by.length := (by intro ds S Q E h; (repeat obtain ⟨_, h⟩ := h); subst_vars; rfl)
  have hleast_of : Has P w ⟨K, mg, tabsOf tf K⟩ base "least_of" Pleast_of 6 (cTwo leaF) := has_of (k := 5) (N := Nleast_of) D_least_of g_least_of scleast_of (by intro kV doc pm an cdv ct us hl; exact match us, hl with | [_, _], _ => by kernel_rfl)
      (fun cdv A outer s H E _ hr => bodyleast_of (hneed_two := hneed_two) (sneed_two := sneed_two) (lneed_two := by decide) (hleast_by := hleast_by) (sleast_by := sleast_by) (lleast_by := by decide) (hr := hr)) (fun ds S Q E _ hc => least_of_ok ds S Q E hc)
  have sleast_of : Ct.sized (cTwo leaF) Pleast_of.length := (by intro ds S Q E h; (repeat obtain ⟨_, h⟩ := h); subst_vars; rfl)
  have hmost_by : Has P w ⟨K, mg, tabsOf tf K⟩ base "most_by" Pmost_by 3 (cBy2 mosF) := has_of (k := 2) (N := Nmost_by) D_most_by g_most_by scmost_by (by intro kV doc pm an cdv ct us hl; exact match us, hl with | [_, _], _ => by kernel_rfl)
      (fun cdv A outer s H E _ hr => bodymost_by (hmost := hmost) (smost := smost) (lmost := by decide) (hr := hr)) (fun ds S Q E _ hc => mosby_ok ds S Q E hc)
  have smost_by : Ct.sized (cBy2 mosF) Pmost_by.length := (by intro ds S Q E h; (repeat obtain ⟨_, h⟩ := h); subst_vars; rfl)
  have hmost_of : Has P w ⟨K, mg, tabsOf tf K⟩ base "most_of" Pmost_of 6 (cTwo mosF) := has_of (k := 5) (N := Nmost_of) D_most_of g_most_of scmost_of (by intro kV doc pm an cdv ct us hl; exact match us, hl with | [_, _], _ => by kernel_rfl)
      (fun cdv A outer s H E _ hr => bodymost_of (hneed_two := hneed_two) (sneed_two := sneed_two) (lneed_two := by decide) (hmost_by := hmost_by) (smost_by := smost_by) (lmost_by := by decide) (hr := hr)) (fun ds S Q E _ hc => most_of_ok ds S Q E hc)
  have smost_of : Ct.sized (cTwo mosF) Pmost_of.length := (by intro ds S Q E h; (repeat obtain ⟨_, h⟩ := h); subst_vars; rfl)
  have hminus_by : Has P w ⟨K, mg, tabsOf tf K⟩ base "minus_by" Pminus_by 2 (cBy1 minF) := has_of (k := 1) (N := Nminus_by) D_minus_by g_minus_by scminus_by (by intro kV doc pm an cdv ct us hl; exact match us, hl with | [_], _ => by kernel_rfl)
      (fun cdv A outer s H E _ hr => bodyminus_by (hminus := hminus) (sminus := sminus) (lminus := by decide) (hr := hr)) (fun ds S Q E _ hc => minby_ok ds S Q E hc)
  have sminus_by : Ct.sized (cBy1 minF) Pminus_by.length := (by intro ds S Q E h; (repeat obtain ⟨_, h⟩ := h); subst_vars; rfl)
  have hminus_of : Has P w ⟨K, mg, tabsOf tf K⟩ base "minus_of" Pminus_of 5 (cOne minF) := has_of (k := 4) (N := Nminus_of) D_minus_of g_minus_of scminus_of (by intro kV doc pm an cdv ct us hl; exact match us, hl with | [_], _ => by kernel_rfl)
      (fun cdv A outer s H E _ hr => bodyminus_of (hneed_stretch := hneed_stretch) (sneed_stretch := sneed_stretch) (lneed_stretch := by decide) (hminus_by := hminus_by) (sminus_by := sminus_by) (lminus_by := by decide) (hr := hr)) (fun ds S Q E _ hc => minus_of_ok ds S Q E hc)
  have sminus_of : Ct.sized (cOne minF) Pminus_of.length := (by intro ds S Q E h; (repeat obtain ⟨_, h⟩ := h); subst_vars; rfl)
  have hamount_by : Has P w ⟨K, mg, tabsOf tf K⟩ base "amount_by" Pamount_by 3 (cBy1 amoF) := has_of (k := 2) (N := Namount_by) D_amount_by g_amount_by scamount_by (by intro kV doc pm an cdv ct us hl; exact match us, hl with | [_], _ => by kernel_rfl)
      (fun cdv A outer s H E _ hr => bodyamount_by (t_NONE := t_NONE) (his_less := (Has.imp his_less (fun _ _ _ _ z => less_imp z))) (sis_less := (show Ct.sized cLessR Pis_less.length from (by intro ds S Q E h; (repeat obtain ⟨_, h⟩ := h); subst_vars; rfl))) (lis_less := by decide) (hminus_by := hminus_by) (sminus_by := sminus_by) (lminus_by := by decide) (hmost := hmost) (smost := smost) (lmost := by decide) (hminus := hminus) (sminus := sminus) (lminus := by decide) (hr := hr)) (fun ds S Q E _ hc => amoby_ok ds S Q E hc)
  have samount_by : Ct.sized (cBy1 amoF) Pamount_by.length := (by intro ds S Q E h; (repeat obtain ⟨_, h⟩ := h); subst_vars; rfl)
  have hamount_of : Has P w ⟨K, mg, tabsOf tf K⟩ base "amount_of" Pamount_of 5 (cOne amoF) := has_of (k := 4) (N := Namount_of) D_amount_of g_amount_of scamount_of (by intro kV doc pm an cdv ct us hl; exact match us, hl with | [_], _ => by kernel_rfl)
      (fun cdv A outer s H E _ hr => bodyamount_of (hneed_stretch := hneed_stretch) (sneed_stretch := sneed_stretch) (lneed_stretch := by decide) (hamount_by := hamount_by) (samount_by := samount_by) (lamount_by := by decide) (hr := hr)) (fun ds S Q E _ hc => amount_of_ok ds S Q E hc)
  have samount_of : Ct.sized (cOne amoF) Pamount_of.length := (by intro ds S Q E h; (repeat obtain ⟨_, h⟩ := h); subst_vars; rfl)
  have his_whole : Has P w ⟨K, mg, tabsOf tf K⟩ base "is_whole" Pis_whole 1 cWhole := has_of (k := 0) (N := Nis_whole) D_is_whole g_is_whole scis_whole (by intro kV doc pm an cdv ct us hl; exact match us, hl with | [_, _, _], _ => by kernel_rfl)
      (fun cdv A outer s H E _ hr => bodyis_whole (b_int := b_int) (b_isinstance := b_isinstance) (b_bool := b_bool) (hr := hr)) (fun ds S Q E _ hc => whole_ok ds S Q E hc)
  have sis_whole : Ct.sized cWhole Pis_whole.length := (by intro ds S Q E h; (repeat obtain ⟨_, h⟩ := h); subst_vars; rfl)
  have hneed_whole : Has P w ⟨K, mg, tabsOf tf K⟩ base "need_whole" Pneed_whole 2 cNeed := has_of (k := 1) (N := Nneed_whole) D_need_whole g_need_whole scneed_whole (by intro kV doc pm an cdv ct us hl; exact match us, hl with | [_, _, _], _ => by kernel_rfl)
      (fun cdv A outer s H E _ hr => bodyneed_whole (x_InvalidNumber := x_InvalidNumber) (his_whole := his_whole) (sis_whole := sis_whole) (lis_whole := by decide) (hr := hr)) (fun ds S Q E _ hc => need_ok ds S Q E hc)
  have sneed_whole : Ct.sized cNeed Pneed_whole.length := (by intro ds S Q E h; (repeat obtain ⟨_, h⟩ := h); subst_vars; rfl)
  have hNraised := has_never (P := P) (w := w) (G := ⟨K, mg, tabsOf tf K⟩) (base := base) (ps := Praised) D_raised g_raised (by intro kV doc pm an cdv ct us hl; exact match us, hl with | [_, _], _ => by kernel_rfl)
  have sRraised : ∀ i, Ct.sized (cRaise i) Praised.length := fun i => (by intro ds S Q E h; (repeat obtain ⟨_, h⟩ := h); subst_vars; rfl)
  have hSraised : ∀ (i kk k : Nat) (c : Ct), Has P w ⟨K, mg, tabsOf tf K⟩ base "raised" Praised kk c → Ct.sized c Praised.length → kk ≤ k → 2 ≤ k → (∀ e, i = e + 1 → c = cRaise e) → Has P w ⟨K, mg, tabsOf tf K⟩ base "raised" Praised (k + 1) (cRaise i) := fun i kk k c hp sp hk hb hcc => has_of (k := k) (N := Nraised) D_raised g_raised scraised (by intro kV doc pm an cdv ct us hl; exact match us, hl with | [_, _], _ => by kernel_rfl)
      (fun cdv A outer s H E _ hr => bodyraised (t_ONE := t_ONE) (htimes := htimes) (stimes := stimes) (ltimes := Nat.le_trans (by decide) hb) (hraised := hp) (sraised := sp) (lraised := hk) (hr := hr)) (fun ds S Q E _ hc => (raised_ok i c hcc) ds S Q E hc)
  have hRraised : ∀ i, Has P w ⟨K, mg, tabsOf tf K⟩ base "raised" Praised (2 + i + 1) (cRaise i) := fun i => Nat.rec (hSraised 0 0 2 _ hNraised never_sized (Nat.zero_le _) (Nat.le_refl _) (fun e h => absurd h (by omega))) (fun i ih => hSraised (i + 1) _ (2 + i + 1) (cRaise i) ih (sRraised i) (Nat.le_refl _) (by omega) (fun e h => by cases h; rfl)) i
  have hraised : Has P w ⟨K, mg, tabsOf tf K⟩ base "raised" Praised 15 (cRaise 12) := hRraised 12
  have sraised := sRraised 12
  have hpower_by : Has P w ⟨K, mg, tabsOf tf K⟩ base "power_by" Ppower_by 16 cPowBy := has_of (k := 15) (N := Npower_by) D_power_by g_power_by scpower_by (by intro kV doc pm an cdv ct us hl; exact match us, hl with | [_, _], _ => by kernel_rfl)
      (fun cdv A outer s H E _ hr => bodypower_by (t_ONE := t_ONE) (hamount_by := hamount_by) (samount_by := samount_by) (lamount_by := by decide) (hraised := hraised) (sraised := sraised) (lraised := by decide) (hr := hr)) (fun ds S Q E _ hc => powby_ok ds S Q E hc)
  have spower_by : Ct.sized cPowBy Ppower_by.length := (by intro ds S Q E h; (repeat obtain ⟨_, h⟩ := h); subst_vars; rfl)
  have hpower_of : Has P w ⟨K, mg, tabsOf tf K⟩ base "power_of" Ppower_of 17 cPowOf := has_of (k := 16) (N := Npower_of) D_power_of g_power_of scpower_of (by intro kV doc pm an cdv ct us hl; exact match us, hl with | [_, _], _ => by kernel_rfl)
      (fun cdv A outer s H E _ hr => bodypower_of (n_EXPONENT := n_EXPONENT) (hneed_stretch := hneed_stretch) (sneed_stretch := sneed_stretch) (lneed_stretch := by decide) (hneed_whole := hneed_whole) (sneed_whole := sneed_whole) (lneed_whole := by decide) (hpower_by := hpower_by) (spower_by := spower_by) (lpower_by := by decide) (hr := hr)) (fun ds S Q E _ hc => power_of_ok ds S Q E hc)
  have spower_of : Ct.sized cPowOf Ppower_of.length := (by intro ds S Q E h; (repeat obtain ⟨_, h⟩ := h); subst_vars; rfl)
  have h_law_same : HasG P w ⟨K, mg, tabsOf tf K⟩ base "_law_same" P_law_same 1 cSame := has_ofG (k := 0) (N := N_law_same) D__law_same g__law_same sc_law_same (by intro kV doc pm an cdv ct us hl; exact match us, hl with | [_, _], _ => by kernel_rfl)
      (fun cdv A outer s H E _ hg hr => body_law_same (b_repr := b_repr) (hgd := hg) (hr := hr)) (fun ds S Q E _ hc => same_ok ds S Q E hc)
  have s_law_same : Ct.sized cSame P_law_same.length := (by intro ds S Q E h; (repeat obtain ⟨_, h⟩ := h); subst_vars; rfl)
  have h_law_common : Has P w ⟨K, mg, tabsOf tf K⟩ base "_law_common" P_law_common 1 cCommon := has_of (k := 0) (N := N_law_common) D__law_common g__law_common sc_law_common (by intro kV doc pm an cdv ct us hl; exact match us, hl with | [_, _], _ => by kernel_rfl)
      (fun cdv A outer s H E _ hr => body_law_common (b_int := b_int) (hr := hr)) (fun ds S Q E _ hc => common_ok ds S Q E hc)
  have s_law_common : Ct.sized cCommon P_law_common.length := (by intro ds S Q E h; (repeat obtain ⟨_, h⟩ := h); subst_vars; rfl)
  have h_law_made : Has P w ⟨K, mg, tabsOf tf K⟩ base "_law_made" P_law_made 2 cMadeQ := has_of (k := 1) (N := N_law_made) D__law_made g__law_made sc_law_made (by intro kV doc pm an cdv ct us hl; exact match us, hl with | [_, _], _ => by kernel_rfl)
      (fun cdv A outer s H E _ hr => body_law_made (h_law_common := h_law_common) (s_law_common := s_law_common) (l_law_common := by decide) (hr := hr)) (fun ds S Q E _ hc => lmadeQ_ok ds S Q E hc)
  have s_law_made : Ct.sized cMadeQ P_law_made.length := (by intro ds S Q E h; (repeat obtain ⟨_, h⟩ := h); subst_vars; rfl)
  have h_law_roll : Has P w ⟨K, mg, tabsOf tf K⟩ base "_law_roll" P_law_roll 1 cRoll := has_of (k := 0) (N := N_law_roll) D__law_roll g__law_roll sc_law_roll (by intro kV doc pm an cdv ct us hl; exact match us, hl with | [_, _], _ => by kernel_rfl)
      (fun cdv A outer s H E _ hr => body_law_roll (b_int := b_int) (hr := hr)) (fun ds S Q E _ hc => roll_ok ds S Q E hc)
  have s_law_roll : Ct.sized cRoll P_law_roll.length := (by intro ds S Q E h; (repeat obtain ⟨_, h⟩ := h); subst_vars; rfl)
  have h_law_some : Has P w ⟨K, mg, tabsOf tf K⟩ base "_law_some" P_law_some 2 cSome := has_of (k := 1) (N := N_law_some) D__law_some g__law_some sc_law_some (by intro kV doc pm an cdv ct us hl; exact match us, hl with | [_, _], _ => by kernel_rfl)
      (fun cdv A outer s H E _ hr => body_law_some (b_len := b_len) (h_law_roll := h_law_roll) (s_law_roll := s_law_roll) (l_law_roll := by decide) (hr := hr)) (fun ds S Q E _ hc => some_ok ds S Q E hc)
  have s_law_some : Ct.sized cSome P_law_some.length := (by intro ds S Q E h; (repeat obtain ⟨_, h⟩ := h); subst_vars; rfl)
  have h_law_any : Has P w ⟨K, mg, tabsOf tf K⟩ base "_law_any" P_law_any 3 cLAny := has_of (k := 2) (N := N_law_any) D__law_any g__law_any sc_law_any (by intro kV doc pm an cdv ct us hl; exact match us, hl with | [_], _ => by kernel_rfl)
      (fun cdv A outer s H E _ hr => body_law_any (h_law_made := h_law_made) (s_law_made := s_law_made) (l_law_made := by decide) (h_law_roll := h_law_roll) (s_law_roll := s_law_roll) (l_law_roll := by decide) (h_law_some := h_law_some) (s_law_some := s_law_some) (l_law_some := by decide) (hr := hr)) (fun ds S Q E _ hc => lany_ok ds S Q E hc)
  have s_law_any : Ct.sized cLAny P_law_any.length := (by intro ds S Q E h; (repeat obtain ⟨_, h⟩ := h); subst_vars; rfl)
  have h_law_is_less : Has P w ⟨K, mg, tabsOf tf K⟩ base "_law_is_less" P_law_is_less 1 cLessR := has_of (k := 0) (N := N_law_is_less) D__law_is_less g__law_is_less sc_law_is_less (by intro kV doc pm an cdv ct us hl; exact match us, hl with | [_, _], _ => by kernel_rfl)
      (fun cdv A outer s H E _ hr => body_law_is_less  (hr := hr)) (fun ds S Q E _ hc => lless_okR ds S Q E hc)
  have s_law_is_less : Ct.sized cLessR P_law_is_less.length := (by intro ds S Q E h; (repeat obtain ⟨_, h⟩ := h); subst_vars; rfl)
  have h_law_order : Has P w ⟨K, mg, tabsOf tf K⟩ base "_law_order" P_law_order 2 cLOrd := has_of (k := 1) (N := N_law_order) D__law_order g__law_order sc_law_order (by intro kV doc pm an cdv ct us hl; exact match us, hl with | [_, _], _ => by kernel_rfl)
      (fun cdv A outer s H E _ hr => body_law_order (h_law_is_less := h_law_is_less) (s_law_is_less := s_law_is_less) (l_law_is_less := by decide) (hr := hr)) (fun ds S Q E _ hc => lord_ok ds S Q E hc)
  have s_law_order : Ct.sized cLOrd P_law_order.length := (by intro ds S Q E h; (repeat obtain ⟨_, h⟩ := h); subst_vars; rfl)
  have h_law_stretch : Has P w ⟨K, mg, tabsOf tf K⟩ base "_law_stretch" P_law_stretch 4 cLStr := has_of (k := 3) (N := N_law_stretch) D__law_stretch g__law_stretch sc_law_stretch (by intro kV doc pm an cdv ct us hl; exact match us, hl with | [_], _ => by kernel_rfl)
      (fun cdv A outer s H E _ hr => body_law_stretch (h_law_any := h_law_any) (s_law_any := s_law_any) (l_law_any := by decide) (h_law_roll := h_law_roll) (s_law_roll := s_law_roll) (l_law_roll := by decide) (h_law_order := h_law_order) (s_law_order := s_law_order) (l_law_order := by decide) (hr := hr)) (fun ds S Q E _ hc => lstr_ok ds S Q E hc)
  have s_law_stretch : Ct.sized cLStr P_law_stretch.length := (by intro ds S Q E h; (repeat obtain ⟨_, h⟩ := h); subst_vars; rfl)
  have h_law_in : Has P w ⟨K, mg, tabsOf tf K⟩ base "_law_in" P_law_in 2 cInR := has_of (k := 1) (N := N_law_in) D__law_in g__law_in sc_law_in (by intro kV doc pm an cdv ct us hl; exact match us, hl with | [_, _], _ => by kernel_rfl)
      (fun cdv A outer s H E _ hr => body_law_in (h_law_is_less := h_law_is_less) (s_law_is_less := s_law_is_less) (l_law_is_less := by decide) (hr := hr)) (fun ds S Q E _ hc => lawin_ok ds S Q E hc)
  have s_law_in : Ct.sized cInR P_law_in.length := (by intro ds S Q E h; (repeat obtain ⟨_, h⟩ := h); subst_vars; rfl)
  have h_law_minus : Has P w ⟨K, mg, tabsOf tf K⟩ base "_law_minus" P_law_minus 1 cMinusR := has_of (k := 0) (N := N_law_minus) D__law_minus g__law_minus sc_law_minus (by intro kV doc pm an cdv ct us hl; exact match us, hl with | [_], _ => by kernel_rfl)
      (fun cdv A outer s H E _ hr => body_law_minus  (hr := hr)) (fun ds S Q E _ hc => lminus_okR ds S Q E hc)
  have s_law_minus : Ct.sized cMinusR P_law_minus.length := (by intro ds S Q E h; (repeat obtain ⟨_, h⟩ := h); subst_vars; rfl)
  have h_law_plus : Has P w ⟨K, mg, tabsOf tf K⟩ base "_law_plus" P_law_plus 3 cPlusR := has_of (k := 2) (N := N_law_plus) D__law_plus g__law_plus sc_law_plus (by intro kV doc pm an cdv ct us hl; exact match us, hl with | [_, _], _ => by kernel_rfl)
      (fun cdv A outer s H E _ hr => body_law_plus (h_law_made := (Has.imp h_law_made (fun _ _ _ _ z => made_imp z))) (s_law_made := (show Ct.sized cMade P_law_made.length from (by intro ds S Q E h; (repeat obtain ⟨_, h⟩ := h); subst_vars; rfl))) (l_law_made := by decide) (hr := hr)) (fun ds S Q E _ hc => lplus_okR ds S Q E hc)
  have s_law_plus : Ct.sized cPlusR P_law_plus.length := (by intro ds S Q E h; (repeat obtain ⟨_, h⟩ := h); subst_vars; rfl)
  have h_law_times : Has P w ⟨K, mg, tabsOf tf K⟩ base "_law_times" P_law_times 3 cTimesR := has_of (k := 2) (N := N_law_times) D__law_times g__law_times sc_law_times (by intro kV doc pm an cdv ct us hl; exact match us, hl with | [_, _], _ => by kernel_rfl)
      (fun cdv A outer s H E _ hr => body_law_times (h_law_made := (Has.imp h_law_made (fun _ _ _ _ z => made_imp z))) (s_law_made := (show Ct.sized cMade P_law_made.length from (by intro ds S Q E h; (repeat obtain ⟨_, h⟩ := h); subst_vars; rfl))) (l_law_made := by decide) (hr := hr)) (fun ds S Q E _ hc => ltimes_okR ds S Q E hc)
  have s_law_times : Ct.sized cTimesR P_law_times.length := (by intro ds S Q E h; (repeat obtain ⟨_, h⟩ := h); subst_vars; rfl)
  have h_law_by : Has P w ⟨K, mg, tabsOf tf K⟩ base "_law_by" P_law_by 3 cByR := has_of (k := 2) (N := N_law_by) D__law_by g__law_by sc_law_by (by intro kV doc pm an cdv ct us hl; exact match us, hl with | [_, _], _ => by kernel_rfl)
      (fun cdv A outer s H E _ hr => body_law_by (h_law_made := h_law_made) (s_law_made := s_law_made) (l_law_made := by decide) (hr := hr)) (fun ds S Q E _ hc => by_okR ds S Q E hc)
  have s_law_by : Ct.sized cByR P_law_by.length := (by intro ds S Q E h; (repeat obtain ⟨_, h⟩ := h); subst_vars; rfl)
  have h_law_lesser : Has P w ⟨K, mg, tabsOf tf K⟩ base "_law_lesser" P_law_lesser 2 cMinR := has_of (k := 1) (N := N_law_lesser) D__law_lesser g__law_lesser sc_law_lesser (by intro kV doc pm an cdv ct us hl; exact match us, hl with | [_, _], _ => by kernel_rfl)
      (fun cdv A outer s H E _ hr => body_law_lesser (h_law_is_less := h_law_is_less) (s_law_is_less := s_law_is_less) (l_law_is_less := by decide) (hr := hr)) (fun ds S Q E _ hc => lesser_okR ds S Q E hc)
  have s_law_lesser : Ct.sized cMinR P_law_lesser.length := (by intro ds S Q E h; (repeat obtain ⟨_, h⟩ := h); subst_vars; rfl)
  have h_law_greater : Has P w ⟨K, mg, tabsOf tf K⟩ base "_law_greater" P_law_greater 2 cMaxR := has_of (k := 1) (N := N_law_greater) D__law_greater g__law_greater sc_law_greater (by intro kV doc pm an cdv ct us hl; exact match us, hl with | [_, _], _ => by kernel_rfl)
      (fun cdv A outer s H E _ hr => body_law_greater (h_law_is_less := h_law_is_less) (s_law_is_less := s_law_is_less) (l_law_is_less := by decide) (hr := hr)) (fun ds S Q E _ hc => greater_okR ds S Q E hc)
  have s_law_greater : Ct.sized cMaxR P_law_greater.length := (by intro ds S Q E h; (repeat obtain ⟨_, h⟩ := h); subst_vars; rfl)
  have h_law_hull : Has P w ⟨K, mg, tabsOf tf K⟩ base "_law_hull" P_law_hull 2 cHullR := has_of (k := 1) (N := N_law_hull) D__law_hull g__law_hull sc_law_hull (by intro kV doc pm an cdv ct us hl; exact match us, hl with | [_], _ => by kernel_rfl)
      (fun cdv A outer s H E _ hr => body_law_hull (h_law_is_less := h_law_is_less) (s_law_is_less := s_law_is_less) (l_law_is_less := by decide) (hr := hr)) (fun ds S Q E _ hc => lhull_ok ds S Q E hc)
  have s_law_hull : Ct.sized cHullR P_law_hull.length := (by intro ds S Q E h; (repeat obtain ⟨_, h⟩ := h); subst_vars; rfl)
  have VT_law_pairs : VTab P w ⟨K, mg, tabsOf tf K⟩ base 3 tbP := (VTab.cons (x := "_law_plus") (c := cPlusR) (ps := P_law_plus) h_law_plus s_law_plus (by decide) (VTab.cons (x := "_law_times") (c := cTimesR) (ps := P_law_times) h_law_times s_law_times (by decide) (VTab.cons (x := "_law_by") (c := cByR) (ps := P_law_by) h_law_by s_law_by (by decide) (VTab.cons (x := "_law_lesser") (c := cMinR) (ps := P_law_lesser) h_law_lesser s_law_lesser (by decide) (VTab.cons (x := "_law_greater") (c := cMaxR) (ps := P_law_greater) h_law_greater s_law_greater (by decide) VTab.nil)))))
  have h_law_pairs : Has P w ⟨K, mg, tabsOf tf K⟩ base "_law_pairs" P_law_pairs 4 cPairs := has_of (k := 3) (N := N_law_pairs) D__law_pairs g__law_pairs sc_law_pairs (by intro kV doc pm an cdv ct us hl; exact match us, hl with | [_, _, _], _ => by kernel_rfl)
      (fun cdv A outer s H E _ hr => body_law_pairs (h_law_hull := h_law_hull) (s_law_hull := s_law_hull) (l_law_hull := by decide) (tb := tbP) (htb := VT_law_pairs) (lt := by decide) (hr := hr)) (fun ds S Q E _ hc => pairs_ok ds S Q E hc)
  have s_law_pairs : Ct.sized cPairs P_law_pairs.length := (by intro ds S Q E h; (repeat obtain ⟨_, h⟩ := h); subst_vars; rfl)
  have h_law_two_right : HasG P w ⟨K, mg, tabsOf tf K⟩ base "_law_two_right" P_law_two_right 7 cTwoRight := has_ofG (k := 6) (N := N_law_two_right) D__law_two_right g__law_two_right sc_law_two_right (by intro kV doc pm an cdv ct us hl; exact match us, hl with | [_, _], _ => by kernel_rfl)
      (fun cdv A outer s H E _ hg hr => body_law_two_right (g__law_times := g__law_times) (g__law_plus := g__law_plus) (g__law_greater := g__law_greater) (g__law_lesser := g__law_lesser) (g__law_by := g__law_by) (h_law_minus := h_law_minus) (s_law_minus := s_law_minus) (l_law_minus := by decide) (hmost_of := hmost_of) (smost_of := smost_of) (lmost_of := by decide) (hleast_of := hleast_of) (sleast_of := sleast_of) (lleast_of := by decide) (hproduct_of := hproduct_of) (sproduct_of := sproduct_of) (lproduct_of := by decide) (hdifference_of := hdifference_of) (sdifference_of := sdifference_of) (ldifference_of := by decide) (hsum_of := hsum_of) (ssum_of := ssum_of) (lsum_of := by decide) (h_law_pairs := h_law_pairs) (s_law_pairs := s_law_pairs) (l_law_pairs := by decide) (h_law_same := h_law_same) (s_law_same := s_law_same) (l_law_same := by decide) (h_law_in := h_law_in) (s_law_in := s_law_in) (l_law_in := by decide) (hquotient_of := hquotient_of) (squotient_of := squotient_of) (lquotient_of := by decide) (hgd := hg) (hr := hr)) (fun ds S Q E _ hc => two_right_ok ds S Q E hc)
  have s_law_two_right : Ct.sized cTwoRight P_law_two_right.length := (by intro ds S Q E h; (repeat obtain ⟨_, h⟩ := h); subst_vars; rfl)
  have h_law_raised : Has P w ⟨K, mg, tabsOf tf K⟩ base "_law_raised" P_law_raised 4 cLRaise := has_of (k := 3) (N := N_law_raised) D__law_raised g__law_raised sc_law_raised (by intro kV doc pm an cdv ct us hl; exact match us, hl with | [_, _], _ => by kernel_rfl)
      (fun cdv A outer s H E _ hr => body_law_raised (b_range := b_range) (h_law_times := h_law_times) (s_law_times := s_law_times) (l_law_times := by decide) (hr := hr)) (fun ds S Q E _ hc => lraised_ok ds S Q E hc)
  have s_law_raised : Ct.sized cLRaise P_law_raised.length := (by intro ds S Q E h; (repeat obtain ⟨_, h⟩ := h); subst_vars; rfl)
  have h_law_one_right : HasG P w ⟨K, mg, tabsOf tf K⟩ base "_law_one_right" P_law_one_right 18 cOneRight := has_ofG (k := 17) (N := N_law_one_right) D__law_one_right g__law_one_right sc_law_one_right (by intro kV doc pm an cdv ct us hl; exact match us, hl with | [_, _], _ => by kernel_rfl)
      (fun cdv A outer s H E _ hg hr => body_law_one_right (b_abs := b_abs) (b_list := b_list) (h_law_in := h_law_in) (s_law_in := s_law_in) (l_law_in := by decide) (h_law_raised := h_law_raised) (s_law_raised := s_law_raised) (l_law_raised := by decide) (hpower_of := hpower_of) (spower_of := spower_of) (lpower_of := by decide) (hamount_of := hamount_of) (samount_of := samount_of) (lamount_of := by decide) (hminus_of := hminus_of) (sminus_of := sminus_of) (lminus_of := by decide) (h_law_same := h_law_same) (s_law_same := s_law_same) (l_law_same := by decide) (h_law_hull := h_law_hull) (s_law_hull := s_law_hull) (l_law_hull := by decide) (h_law_minus := h_law_minus) (s_law_minus := s_law_minus) (l_law_minus := by decide) (hgd := hg) (hr := hr)) (fun ds S Q E _ hc => one_right_ok ds S Q E hc)
  have s_law_one_right : Ct.sized cOneRight P_law_one_right.length := (by intro ds S Q E h; (repeat obtain ⟨_, h⟩ := h); subst_vars; rfl)
  have VTlaw : VTab P w ⟨K, mg, tabsOf tf K⟩ base 6 tbL := (VTab.cons (x := "sum_of") (c := (cTwo sumF)) (ps := Psum_of) hsum_of ssum_of (by decide) (VTab.cons (x := "difference_of") (c := (cTwo difF)) (ps := Pdifference_of) hdifference_of sdifference_of (by decide) (VTab.cons (x := "product_of") (c := (cTwo proF)) (ps := Pproduct_of) hproduct_of sproduct_of (by decide) (VTab.cons (x := "quotient_of") (c := (cTwo quoF)) (ps := Pquotient_of) hquotient_of squotient_of (by decide) (VTab.cons (x := "least_of") (c := (cTwo leaF)) (ps := Pleast_of) hleast_of sleast_of (by decide) (VTab.cons (x := "most_of") (c := (cTwo mosF)) (ps := Pmost_of) hmost_of smost_of (by decide) (VTab.cons (x := "minus_of") (c := (cOne minF)) (ps := Pminus_of) hminus_of sminus_of (by decide) (VTab.cons (x := "amount_of") (c := (cOne amoF)) (ps := Pamount_of) hamount_of samount_of (by decide) VTab.nil))))))))
  have hlaw : HasG P w ⟨K, mg, tabsOf tf K⟩ base "law" Plaw 21 cLaw := has_ofG (k := 20) (N := Nlaw) D_law g_law sclaw (by intro kV doc pm an cdv ct us hl; exact match us, hl with | [_], _ => by kernel_rfl)
      (fun cdv A outer s H E ⟨oc, od, fd, osl, lk, e, cc, hc⟩ hg hr => by
        subst hc
        have ec : He.codeOf K ("law", none) = cc := He.codeOf_eq lk e
        have TB := TBs ("law", none) (List.Mem.head _)
        have hmT : ((He.cT K ("law", none)).2, ("law" : Str) ++ ".<locals>." ++ "<lambda>") ∈ tabsOf tf K := (List.Mem.head _)
        have hu : ∀ p ∈ tabsOf tf K, p.1 = (He.cT K ("law", none)).2 → p.2 = ("law" : Str) ++ ".<locals>." ++ "<lambda>" := by
          intro p hp he
          simp only [tabsOf, tf, List.map_cons, List.map_nil, List.mem_cons, List.not_mem_nil, or_false] at hp
          subst hp
          rfl
        have e1 : (He.cT K ("law", none)).1 = cc := ec
        rw [e1] at TB
        exact bodylaw (TB := TB) (hmT := hmT) (hu := hu) (hk2 := by decide) (b_range := b_range) (g_most_of := g_most_of) (g_least_of := g_least_of) (g_quotient_of := g_quotient_of) (g_product_of := g_product_of) (g_difference_of := g_difference_of) (g_sum_of := g_sum_of) (T_law_error := T_law_error) (g_amount_of := g_amount_of) (g_minus_of := g_minus_of) (b_len := b_len) (h_law_cup := h_law_cup) (s_law_cup := s_law_cup) (l_law_cup := by decide) (h_law_stretch := h_law_stretch) (s_law_stretch := s_law_stretch) (l_law_stretch := by decide) (h_law_two_right := h_law_two_right) (s_law_two_right := s_law_two_right) (l_law_two_right := by decide) (h_law_one_right := h_law_one_right) (s_law_one_right := s_law_one_right) (l_law_one_right := by decide) (h_law_roll := h_law_roll) (s_law_roll := s_law_roll) (l_law_roll := by decide) (hamount_of := hamount_of) (samount_of := samount_of) (lamount_of := by decide) (hpower_of := hpower_of) (spower_of := spower_of) (lpower_of := by decide) (hproduct_of := hproduct_of) (sproduct_of := sproduct_of) (lproduct_of := by decide) (hquotient_of := hquotient_of) (squotient_of := squotient_of) (lquotient_of := by decide) (h_law_same := h_law_same) (s_law_same := s_law_same) (l_law_same := by decide) (hminus_of := hminus_of) (sminus_of := sminus_of) (lminus_of := by decide) (tb := tbL) (htb := VTlaw) (lt := by decide) (hgd := hg) (hr := hr))
      (fun ds S Q E _ hc => law_ok ds S Q E hc)
  exact hlaw
end LawX
open PySem PySem.W PySem.Calls PyProof.Rows
theorem PySem.Challenge.cw_nearplain_k09_whole_images_of_stretches_holds : PySem.Challenge.rw_nearplain_k09_whole_images_of_stretches.Holds := by
  w_on; o_law
  refine HandSHeadRun.head_imp (r := LawX.R) (q := view LawX.R.prog [0, 77]) (H := LawX.hk) (ob := LawX.ob) (M := 6000) (loose := LawX.loose) (d := HandSHeadRun.topDef LawX.R.prog 77) (kwd := []) LawX.ob_eq
     LawX.run (by kernel_rfl) (by kernel_rfl) (by kernel_rfl) (by rfl) (by first | assumption | decide +kernel) (by decide +kernel) ⟨rfl, rfl, rfl, rfl, rfl, by decide +kernel⟩ ?hw ?hc
  case hw => w_witness2
  case hc =>
    refine Dx.dx_walkG (l := PySem.Challenge.rw_nearplain_k09_whole_images_of_stretches) (n := 63) (nn := 4) (k := 21) (nm := "law") (x := "script") (st := LawX.stlaw) (c := fun _ _ => LawX.cLaw) rfl (by decide) (by kernel_rfl) (by kernel_rfl) ⟨rfl, by decide, by decide⟩ (fun K h => (Bool.and_eq_true_iff.mp h).1) (List.Mem.tail _ (List.Mem.tail _ (List.Mem.tail _ (List.Mem.tail _ (List.Mem.tail _ (List.Mem.tail _ (List.Mem.tail _ (List.Mem.tail _ (List.Mem.tail _ (List.Mem.tail _ (List.Mem.tail _ (List.Mem.tail _ (List.Mem.tail _ (List.Mem.tail _ (List.Mem.tail _ (List.Mem.tail _ (List.Mem.tail _ (List.Mem.tail _ (List.Mem.tail _ (List.Mem.tail _ (List.Mem.tail _ (List.Mem.tail _ (List.Mem.tail _ (List.Mem.tail _ (List.Mem.tail _ (List.Mem.tail _ (List.Mem.tail _ (List.Mem.tail _ (List.Mem.tail _ (List.Mem.tail _ (List.Mem.tail _ (List.Mem.tail _ (List.Mem.tail _ (List.Mem.tail _ (List.Mem.tail _ (List.Mem.tail _ (List.Mem.tail _ (List.Mem.tail _ (List.Mem.tail _ (List.Mem.tail _ (List.Mem.tail _ (List.Mem.tail _ (List.Mem.tail _ (List.Mem.tail _ (List.Mem.tail _ (List.Mem.tail _ (List.Mem.tail _ (List.Mem.tail _ (List.Mem.tail _ (List.Mem.tail _ (List.Mem.tail _ (List.Mem.tail _ (List.Mem.tail _ (List.Mem.tail _ (List.Mem.tail _ (List.Mem.tail _ (List.Mem.tail _ (List.Mem.tail _ (List.Mem.tail _ (List.Mem.tail _ (List.Mem.tail _ (List.Mem.head _)))))))))))))))))))))))))))))))))))))))))))))))))))))))))))))) (List.mem_append_left _ (List.mem_append_right _ (List.Mem.tail _ (List.Mem.head _))))
      (by intro kV doc pm an cdv ct us hl; exact match us, hl with | [_], _ => by kernel_rfl) (fun w mg h K KX G Y base Kb Gb TB => LawX.chain KX G Y base Kb Gb TB) (fun w G ns hl hb => ⟨ns, rfl, hl, rfl, fun _ => rfl⟩)
